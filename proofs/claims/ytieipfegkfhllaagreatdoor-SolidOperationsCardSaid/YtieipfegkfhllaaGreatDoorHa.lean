/-
  Part of the proof of SolidOperations.
-/
import Derived.Test.YtieipfegkfhllaaGreatDoorFa
import Derived.Test.YtieipfegkfhllaaGreatDoorMa
import Derived.Test.YtieipfegkfhllaaGreatDoorSa
import Derived.Shelf.SlSortCmp.NoneTotal
set_option maxRecDepth 100000
set_option maxHeartbeats 20000000
set_option linter.all false
open Go Go.RowKit Go.Proofs Go.Proofs.Tryz
namespace Trn
section
open Go.Shelf
variable[D:DR]
variable{k:Nat}{xs:A3 AW}
def chunk(k:Nat)(xs:A3 AW)(i:Nat):A3 AW:=(xs.drop<|i*k).take k
theorem Th{n:Nat}(h:xs.length=n*k){i:Nat}(hi:i<n):(chunk k xs i).length=k:=by have:(i+1)*k<=n*k:=LN k hi;rw[Kc,Mv] at this;simp[chunk];omega
theorem y8{n:Nat}(h:xs.length=n*k){t:Nat}(ht:t<n*k):(chunk k xs<|t/k)[t%k]? =xs[t]? :=by
 have hk:0<k:=(LL k).elim (λe=>by subst e;simp at ht) id;have hm:=OS t hk;unfold chunk;rw[WM,if_pos hm,UD]
 congr 1
 rw[MN];exact Nat.div_add_mod t k
theorem ahp{ys:A3 AW}(h:ys.length=k):chunk k (ys++xs) 0=ys:=by simp[chunk,<-h]
theorem ahq{ys:A3 AW}(h:ys.length=k)(i:Nat):chunk k (ys++xs) (i+1)=chunk k xs i:=by
 unfold chunk;rw[Kc,Mv,Pb,<-h,Nf];have e:List.drop (ys.length+i*ys.length) ys=[]:=List.drop_eq_nil_of_le A4;rw[e,KC]
 congr 2;omega
end
section
open Go.Shelf
variable[D:DR]
variable{P:Program}{A:Type}{τ:A->Ty}{k:Nat}{H:HV}
theorem Tc(hn:∀a,(τ a).n=k)(ha:∀a,(τ a).agg=true):∀{l:A3 A} {xs:A3 AW},DQ H (lT τ l) xs->xs.length=l.length*k/\∀i (hi:i<l.length),(τ l[i]).ok H (.agg (chunk k xs i).toArray)
 |[],xs,h=>by have h:xs=[]:=h;subst h;exact⟨AV,λi hi=>absurd hi<|Nat.not_lt_zero _⟩
 |a::l,xs,h=>by
  let⟨v,rest,e,hv,hr⟩:=h;have sh:=(τ a).shape hv;let⟨hl,hc⟩:=Tc hn ha hr;have hs:v.cells.toList.length=k:=by rw[Fg,sh.size,hn]
  subst e;refine⟨by simp[Dg,hs,hl,E7];rw[Kc];omega,λi hi=>?_⟩;cases i with
  |zero=>rw[ahp hs];have e:=sh.eq;rw[ha] at e;have e:v= .agg v.cells:=e;simpa[<-e] using hv
  |succ i=>rw[ahq hs];exact hc i (by simpa using hi)
theorem df:∀{l:A3 A} {xs:A3 AW},xs.length=l.length*k->(∀i (hi:i<l.length),(τ l[i]).ok H<| .agg (chunk k xs i).toArray)->DQ H (lT τ l) xs
 |[],xs,h,_=>LP (by simpa using h)
 |a::l,xs,h,hc=>by
  have hlen:xs.length=k+l.length*k:=by simpa[Kc,Pb] using h
  have h0:=hc 0 AV;have e0:chunk k xs 0=xs.take k:=by simp[chunk]
  rw[e0] at h0;refine⟨_,xs.drop k,?_,h0,df (by simp[hlen]) λi hi=>?_⟩
  ·simp[Value.cells]
  ·have:=hc (i+1) (by simpa using hi);have e:chunk k xs (i+1)=chunk k (xs.drop k) i:=by unfold chunk;rw[FZ,Kc,Mv,Pb]
   rwa [e] at this
end
section
open Go.Shelf
variable[D:DR]
variable{w:AR}
theorem aaU{w':AR}(h: @FV DR.strict w.heap.size w w'):∃q os,w'=Go.Sort.grow (w.drewN q) os:=by
 refine⟨w'.drawn-w.drawn,w'.heap.extract w.heap.size w'.heap.size,?_⟩;have hd:w.drawn+(w'.drawn-w.drawn)=w'.drawn:=by have h:w.drawn<=w'.drawn:=FV.drawn (D:=DR.strict) h;omega
 have hh:w.heap++w'.heap.extract w.heap.size w'.heap.size=w'.heap:=by
  apply Array.ext_getElem?;intro i;rw[iY];have hs:=(FV.toBelow (D:=DR.strict) h).size;split
  ·rename_i hi;exact((FV.toBelow (D:=DR.strict) h).block i hi).symm
  ·grind
 let⟨heap,tape,drawn,os,output⟩:=w';let⟨avR,avN,avL,os0,avI⟩:=w;simp only[World.drewN,Go.Sort.grow];simp[World.mk.injEq];have hb:=FV.toBelow (D:=DR.strict) h;exact⟨hh.symm,hb.tape,hd.symm,hb.os,hb.output⟩
theorem Xk{α:Type}[Inhabited α]{enc:α->A3 AW}{k:Nat}{blk off m:Nat}{dk:BA α}{os:BA Obj}{r:Nat}(hr:r<w.heap.size)(hne:r≠blk):(sortWorldK enc k w blk off m dk os).heap[r]? =w.heap[r]? :=by unfold sortWorldK Go.Sort.grow Go.Sort.putRowK Go.Sort.putRow Go.Sort.mapBlock Go.Sort.ahead;simp only[iY,Array.size_modify,hr,if_pos,UG];rw[if_neg<|λe=>hne e.symm]
theorem lC{α:Type}[Inhabited α]{enc:α->A3 AW}{k:Nat}{blk off m:Nat}{dk:BA α}{os:BA Obj}:w.heap.size<=(sortWorldK enc k w blk off m dk os).heap.size:=by unfold sortWorldK Go.Sort.grow Go.Sort.putRowK Go.Sort.putRow Go.Sort.mapBlock Go.Sort.ahead;simp
end
section
open Go.Shelf
variable[D:DR]
variable{P:Program}{A:Type}{τ:A->Ty}{k:Nat}{H:HV}{c:A×A->Option Int}
theorem xB(hn:∀a,(τ a).n=k)(ha:∀a,(τ a).agg=true){l:A3 A}{xs:A3 AW}{w:AR}{blk off g:Nat}{cap:BA AW}{F5:A3 Ty}(hxs:DQ H (lT τ l) xs)
  (sub:∀r o,H r=some o->w.heap[r]? =some o)(gl:LR P H)(hB:H blk=none)(Qy:Ed H F5 cap.toList)
  (hf:∀a r,c a=some r-> @Eg DR.strict P g ([τ a.1,τ a.2]++F5) (.vs [TI .i64 r]))(cf:Fin l.length->Fin l.length->Int)(tot:∀i j,c (l[i],l[j])=some (cf i j))[Inhabited<|Fin l.length]:CmpLays P g cap (λi:Fin l.length=>chunk k xs i) k cf blk off l.length w:=by
 intro m os dk hdk x y;let⟨_,hc⟩:=Tc hn ha hxs;have hs:∀r o,H r=some o->(sortWorldK (λi:Fin l.length=>chunk k xs i) k w blk off m dk os).heap[r]? =some o:=λr o h=>by have h1:=sub r o h;rw[Xk (lt_of_heap h1) (λe=>by rw[e,hB] at h;cases h)];exact h1
 have hr:=Eg.run (D:=DR.strict) (hf (l[x],l[y]) _<|tot x y) _ H ([Value.agg (chunk k xs x).toArray,Value.agg (chunk k xs y).toArray]++cap.toList) hs gl<|YV ⟨_,_,rfl,hc x x.2,_,_,rfl,hc y y.2,rfl⟩ Qy
 have ea:([Value.agg (chunk k xs x).toArray,Value.agg (chunk k xs y).toArray]++cap.toList).toArray= #[Value.agg (chunk k xs x).toArray,Value.agg (chunk k xs y).toArray]++cap:=AV;rw[ea] at hr;refine hr.mono ?_;rintro e w' ⟨v,rfl,hb,H',_,_,hv⟩;have hv:v= .int .i64 (cf x y):=hv;subst hv;exact⟨rfl,aaU hb⟩
end
section
open Go.Shelf
variable[D:DR]
variable{α:Type}{k:Nat}{cur:BA AW}
theorem nW[Inhabited α]{enc:α->A3 AW}(hk:∀x,(enc x).length=k){d:BA α}{i:Nat}(hi:i<d.size):chunk k (Go.Sort.flatK enc k d).toList i=enc d[i]! :=by
 have hb:i*k+k<=d.size*k:=by
  have:=LN k<|show i+1<=d.size from hi
  rwa [Kc,Mv] at this
 apply WI;intro t;unfold chunk;rw[WM];by_cases ht:t<k
 ·rw[if_pos ht,UD,Pq];have hlt:i*k+t<d.size*k:=A4;have e1:(i*k+t)/k=i:=by rw[MN,Nat.mul_add_div A4,Nat.div_eq_of_lt ht,U8]
  have e2:(i*k+t)%k=t:=by rw[MN,Nat.mul_add_mod,SH ht]
  have hl:=hk d[i]!;unfold Go.Sort.flatK;rw[Array.getElem?_map,Array.getElem?_range,if_pos hlt,Pf,e1,e2,KA (enc d[i]!) t A4,Gj A4]
 ·grind
theorem vT{n:Nat}{xs:A3 AW}{w:AR}{blk:Nat}{E:Ap}[Inhabited<|Fin n](hl:xs.length=n*k)(hb:w.heap[blk]? =some (.cells cur E (0,0)))(ht:cur.toList.take (n*k)=xs):Go.Sort.HoldsK (λi:Fin n=>chunk k xs i) k w blk 0 (Array.ofFn λi:Fin n=>i):=by
 unfold Go.Sort.HoldsK Go.Sort.Holds;intro j hj;rw[Go.Sort.size_flatK,WC] at hj;have M6:cur[j]? =xs[j]? :=AK;have hk:0<k:=(LL k).elim (λe=>by subst e;simp at hj) id;have hi:j/k<n:=Nat.div_lt_of_lt_mul (by rw[MN];exact hj);refine⟨?_,by simp[World.frozen?,hb]⟩;rw[Go.Sort.get_flatK _ _ _ _ (by simpa using hj),Pc];rw[ZV hb,M6];have e1:(Array.ofFn λi:Fin n=>i)[j/k]! =⟨j/k,hi⟩:=by rw[KA (Array.ofFn λi:Fin n=>i) (j/k) (by simpa using hi)];simp
 rw[e1];have hg:=y8 hl hj;have hlt:j%k<(chunk k xs<|j/k).length:=AK;show xs[j]? =some (id (chunk k xs<|j/k)[j%k]!);rw[<-hg,KA (chunk k xs<|j/k) (j%k) hlt,Gj hlt];rfl
theorem tP[Inhabited α]{enc:α->A3 AW}{w:AR}{blk m:Nat}{dk:BA α}{os:BA Obj}{E:Ap}{fr:Nat×Nat}(hb:w.heap[blk]? =some (.cells cur E fr)):(sortWorldK enc k w blk 0 m dk os).heap[blk]? =some (.cells (Go.Sort.putCells id 0 (Go.Sort.flatK enc k dk) cur) E fr):=by
 unfold sortWorldK Go.Sort.grow Go.Sort.putRowK Go.Sort.putRow Go.Sort.mapBlock Go.Sort.ahead;simp only[iY,Array.size_modify,lt_of_heap hb,if_pos,UG,hb,Pf]
 rfl
theorem uz[Inhabited α]{d:BA AW}(h:d.size<=cur.size):(Go.Sort.putCells id 0 d cur).toList.take d.size=d.toList:=by
 apply WI;intro i;rw[WM];split
 ·rename_i hi;rw[Pq,Pq];unfold Go.Sort.putCells;rw[Array.getElem?_mapIdx,ik (by omega:i<cur.size),Pf,if_pos ⟨FY _,A4⟩,Nat.sub_zero,ik hi,KA d i hi];rfl
 ·grind
end
section
open Go.Shelf
variable[D:DR]
variable{P:Program}{ρ:Ren}{A:Type}[DecidableEq A]{τ:A->Ty}{k:Nat}{c:A×A->Option Int}
variable{l r:A3 A}
theorem ail{α:Type}{l:A3 α}{d:BA (Fin l.length)}(h:d.toList.Perm (Array.ofFn λi:Fin l.length=>i).toList):(d.toList.map λi=>l[i]).Perm l:=by
 have h1:=h.map λi:Fin l.length=>l[i]
 have e:(Array.ofFn λi:Fin l.length=>i).toList.map (λi:Fin l.length=>l[i])=l:=by rw[Array.toList_ofFn,List.map_ofFn];exact List.ofFn_getElem
 rwa [e] at h1
theorem xS(hm:Ie l c=some r)[Inhabited<|Fin l.length]{cf:Fin l.length->Fin l.length->Int}(tot:∀i j,c (l[i],l[j])=some (cf i j)){d:BA (Fin l.length)}
 (hp:Go.Sort.PermIn 0 l.length (Array.ofFn λi:Fin l.length=>i) d)(hs:Go.Sort.SortedIn (ltOf cf) 0 l.length d):d.size=l.length/\(d.toList.map λi=>l[i])=r:=by
 let⟨h1,h2,_,_⟩:=YJ hm;let⟨hz,_,Wu⟩:=hp;rw[WC] at hz;have e1:d.extract 0 d.size=d:=Array.extract_size;rw[hz] at e1;have e2:(Array.ofFn λi:Fin l.length=>i).extract 0 l.length=Array.ofFn λi:Fin l.length=>i:=by
  have h:(Array.ofFn λi:Fin l.length=>i).extract 0 (Array.ofFn λi:Fin l.length=>i).size=Array.ofFn λi:Fin l.length=>i:=Array.extract_size
  rwa [WC] at h
 rw[e1,e2] at Wu;have KU:=ail Wu;refine⟨hz,xR h2 (KU.trans h1.symm) ?_⟩;refine Zj.2 λi j hi hj KW=>?_
 simp[BY,Fg] at hi hj;have hlt:=hs i j (FY _) KW A4;rw[KA d j hj,KA d i hi] at hlt;simp only[List.getElem_map,Array.getElem_toList];have hn: ¬cf d[j] d[i]<0:=by simpa[ltOf] using hlt
 have mem:∀i:Fin l.length,l[i]∈r:=λi=>h1.mem_iff.2<|Ly _
 have:=mt (fZ h2 (mem d[j]) (mem d[i])<|tot d[j] d[i]).2 hn;omega
theorem yL(hm:Ie l c=some r){cf:Fin l.length->Fin l.length->Int}(tot:∀i j,c (l[i],l[j])=some (cf i j)):Go.Sort.SWO (ltOf cf):=by
 let⟨h1,h2,_,_⟩:=YJ hm;have mem:∀i:Fin l.length,l[i]∈r:=λi=>h1.mem_iff.2<|Ly _
 have key:∀i j,ltOf cf i j=decide (r.idxOf l[i]<r.idxOf l[j]):=λi j=>by unfold ltOf;exact Ha.2<|fZ h2 (mem i) (mem j)<|tot i j
 refine⟨λx=>?_,λx y z h1 h2=>?_,λx y z h1 h2=>?_⟩
 ·rw[key];simp
 ·grind
 ·grind
theorem akF(hn:∀a,(τ a).n=k)(ha:∀a,(τ a).agg=true){xs:A3 AW}{H:HV}{w:AR}{blk Eh:Nat}{cur:BA AW}{E:Ap}{B:Aj P}(sub:∀r o,H r=some o->w.heap[r]? =some o)(Ax:DQ H (lT τ l) xs)
 (hown:∀b,Value.ownBlock (.slice (some ⟨blk,0,none⟩) l.length Eh)=some b->H b=none/\B.ED b)(hblk:w.heap[blk]? =some (.cells cur E (0,0)))(hnc:l.length<=Eh)(hcm:Eh<=maxLen)(hcs:cur.size=Eh*k)[Inhabited<|Fin l.length]
 {d':BA (Fin l.length)}(hdz:d'.size=l.length)(hdr:(d'.toList.map λi=>l[i])=r)(m:Nat)(os:BA Obj):R0 (λb=>Value.ownBlock (.slice (some ⟨blk,0,none⟩) l.length Eh)=some b) w H (sortWorldK (λi:Fin l.length=>chunk k xs i) k w blk 0 m d' os) H/\Kf B (sortWorldK (λi:Fin l.length=>chunk k xs i) k w blk 0 m d' os) H E k (lT τ r) (.slice (some ⟨blk,0,none⟩) l.length Eh):=by
 let⟨GS,KX⟩:=Tc hn ha Ax;have hrl:r.length=l.length:=AK;have Hf:=tP (enc:=λi:Fin l.length=>chunk k xs i) (k:=k) (m:=m) (dk:=d') (os:=os) hblk;have Ky:(Go.Sort.flatK (λi:Fin l.length=>chunk k xs i) k d').size=l.length*k:=by rw[Go.Sort.size_flatK,hdz]
 have hle:l.length*k<=cur.size:=by rw[hcs];exact LN k hnc
 have O5:=uz (α:=Fin l.length) (d:=Go.Sort.flatK (λi:Fin l.length=>chunk k xs i) k d') (cur:=cur) (by rw[Ky];exact hle);refine⟨Tr.LV (M:=λb=>Value.ownBlock (.slice (some ⟨blk,0,.none⟩) l.length Eh)=some b) ⟨lC,rfl,rfl,rfl,?_,λi hi hne=>Xk hi (λe=>hne (by rw[e];rfl))⟩ sub λb hb=>(hown b hb).1,⟨(Go.Sort.flatK (λi:Fin l.length=>chunk k xs i) k d').toList,?_,?_,hown⟩⟩
 ·refine H5.of ?_;show w.drawn<=(sortWorldK _ k w blk 0 m d' os).drawn;unfold sortWorldK Go.Sort.grow Go.Sort.putRowK Go.Sort.putRow Go.Sort.mapBlock Go.Sort.ahead;exact UA _ _
 ·have Ud:(lT τ r).length=l.length:=by rw[BY,hrl]
  rw[Ud];refine⟨by rw[Fg,Ky],.inr ⟨blk,Eh,_,rfl,FY _,Hf,hnc,hcm,?_,?_⟩⟩
  ·rw[<-hcs];simp[Go.Sort.putCells]
  ·grind
 ·refine df (by rw[Fg,Ky,hrl]) λi hi=>?_
  have hi2:i<d'.size:=A4;rw[nW (λi=>Th GS i.2) hi2];rw[KA d' i hi2];have e:r[i]=l[d'[i]]:=AK;rw[e];exact KX _ d'[i].2
set_option maxHeartbeats 1000000 in
theorem o0(L:SlLaysF0.n6 P ρ)(aE:∀w,(isAgg<|ρ.t 24).run P w= .ok true w)(zE:∀w,(Go.sizeOf<|ρ.t 24).run P w= .ok k w)(hc:Gi P (ρ.f 6)=true)
 (hn:∀a,(τ a).n=k)(ha:∀a,(τ a).agg=true)(none:∀(p:AA Addr) (cap:Nat) (fv:AW) (w:AR),Calls P (ρ.f 6) #[.slice p 0 cap,fv] w λe w'=>e= .returned (.tuple #[])/\w'=w)
 (hm:Ie l c=some r):JG P (ρ.f 6) [] (.buf (ρ.t 24) k<|lT τ l) (.buf (ρ.t 24) k<|lT τ r) [L3 P (λx:A×A=>[τ x.1,τ x.2]) (λx:Int=>[(TI .i64) x]) c] []:=by
 let⟨h1,h2,h3,h4⟩:=YJ hm;refine⟨hc,λw H v ps qs sub gl hp hq hs=>?_⟩;have hp:=ZC hp;subst hp;obtain⟨fv,rfl,hfv⟩:=PY hq;obtain⟨g,cap,F5,rfl,Qy,hf⟩:=hfv;let⟨xs,hown,Ax,hH⟩:=hs;have hlen:(lT τ l).length=l.length:=BY ..;rw[hlen] at hown;have LV:∀b,v.ownBlock=some b->H b= .none:=λb hb=>(hH b hb).1
 by_cases hl0:l=[]
 ·subst hl0;have hr:r=[]:=List.Perm.eq_nil h1;subst hr;obtain⟨p,Eh,rfl⟩:∃p Eh,v= .slice p 0 Eh:=by
   rcases hown.2 with⟨hv,_⟩|⟨g,cap,cur,hv,_⟩
   ·grind
   ·grind
  refine(none p Eh _ w).mono ?_;rintro e w' ⟨rfl,rfl⟩;exact⟨_,rfl,H,(Tr.refl _ _).LV sub LV,⟨xs,hown,Ax,hH⟩,λb hb=> .inl hb,#[],rfl,rfl⟩
 ·have hpos:0<l.length:=WN.2 hl0;obtain⟨blk,Eh,cur,rfl,hblk,hnc,hcm,hcs,htake⟩:∃blk Eh cur,v= .slice (some ⟨blk,0,.none⟩) l.length Eh/\w.heap[blk]? =some (.cells cur (ρ.t 24) (0,0))/\l.length<=Eh/\Eh<=maxLen/\cur.size=Eh*k/\cur.toList.take (l.length*k)=xs:=by
   rcases hown.2 with⟨_,hz⟩|⟨g,cap,cur,hv,_,r⟩
   ·omega
   ·grind
  haveI:Inhabited (Fin l.length):=⟨⟨0,hpos⟩⟩
  let⟨GS,KX⟩:=Tc hn ha Ax
  let cf:Fin l.length->Fin l.length->Int:=λi j=>(c (l[i],l[j])).getD 0
  have tot:∀i j:Fin l.length,c (l[i],l[j])=some (cf i j):=λi j=>by
   let⟨v,hv⟩:=h3 _ (Ly i.2) _<|Ly j.2
   have hv:c (l[i],l[j])=some v:=hv;show c (l[i],l[j])=some ((c (l[i],l[j])).getD 0);rw[hv];rfl
  have hB:H blk= .none:=LV blk rfl;have Um:=Eg.can (D:=DR.strict)<|hf _ _<|tot ⟨0,hpos⟩ ⟨0,hpos⟩
  have hcmp:=xB (P:=P) (off:=0) hn ha Ax sub gl hB Qy hf cf tot;have hd:(Array.ofFn λi:Fin l.length=>i).size=l.length:=WC;have main:=AnyQ.slices_SortFunc L k aE zE (λi:Fin l.length=>chunk k xs i) (λi=>Th GS i.2)
   (λi u hu=>Rx Ax u<|UF<|Qk hu) cf (yL hm tot) g cap blk 0 Eh (Array.ofFn λi:Fin l.length=>i) w
   (λargs w=>PE Um args w) (by rw[hd];exact hcmp) (vT GS hblk htake) (lt_of_heap hblk) (by rw[hd];exact h4)
  rw[hd] at main;refine main.mono ?_;rintro e w' ⟨rfl,d',m,os,Wu,rN,rfl⟩;let⟨hdz,hdr⟩:=xS hm tot Wu rN;let⟨ht,hr⟩:=akF hn ha (B:=Aj.Oz P w λb=>(AQ.buf (ρ.t 24) k<|lT τ l).owns w (.slice (some ⟨blk,0,.none⟩) l.length Eh) b) sub Ax hH hblk hnc hcm hcs hdz hdr m os;exact⟨_,rfl,H,ht,hr,λb hb=> .inl hb,#[],rfl,rfl⟩
end
section
open Go.Shelf Go.Sort
variable[D:DR]
variable{n:Nat}{dk:BA (Fin n)}{kp:Nat->Bool}{k m kk blk off:Nat}
structure O7(n:Nat)(kp:Nat->Bool)(m kk:Nat)(dk:BA (Fin n)):Prop where
 size:dk.size=n
 le:kk<m
 low:(dk.toList.take kk).map (·.val)=(List.range m).filter kp
 high:∀j (hj:j<n),m-1<=j->∀h:j<dk.size,dk[j]=⟨j,hj⟩
theorem O7.len(h:O7 n kp m kk dk)(hm:m<=n):kk=((List.range m).filter kp).length:=by rw[<-h.low,BY,E1,Fg,h.size];have:=h.le;omega
theorem O7.start(hk:k<n)(hall:∀j,j<k->kp j=true)(hn:kp k=false):O7 n kp (k+1) k (Array.ofFn λi:Fin n=>i):=by
 refine⟨AV,A4,?_,λj hj _ h=>by simp⟩;rw[List.range_succ,WL,List.filter_eq_self.2<|λj hj=>hall j<|Qg.1 hj];have e:List.filter kp [k]=[]:=by simp[hn]
 rw[e,Ih,Array.toList_ofFn];apply WI;intro i;rw[H9,WM];by_cases hi:i<k
 ·rw[if_pos hi,Gj DC,Gj (by simpa using hi)];simp
 ·rw[if_neg hi,List.getElem?_eq_none (by simpa using hi)];rfl
theorem O7.skip(h:O7 n kp m kk dk)(hn:kp m=false):O7 n kp (m+1) kk dk:=by have:=h.le;refine⟨h.size,A4,?_,λj hj hm=>h.high j hj A4⟩;rw[List.range_succ,WL,<-h.low];simp[hn]
theorem O7.E3(h:O7 n kp m kk dk)(hm:m<n)(hn:kp m=true):O7 n kp (m+1) (kk+1) (dk.setIfInBounds kk ⟨m,hm⟩):=by
 have h0:=h.le;refine⟨by simp[h.size],A4,?_,λj hj KV h2=>?_⟩
 ·rw[List.range_succ,WL,<-h.low];have e:List.filter kp [m]=[m]:=by simp[hn]
  rw[e];have hs:=h.size;have hkk:kk<dk.toList.length:=by rw[Fg,hs];omega
  rw[im,List.take_succ,List.take_set_of_le<|BM _,WQ hkk,G9]
  rfl
 ·rw[Array.getElem_setIfInBounds (by simpa using h2),if_neg A4];exact h.high j hj A4 _
theorem anZ{P:CO}{A:Type}{τ:A->Ty}{H:HV}{c:A×A->AA Bool}(hn:∀a,(τ a).n=k)(ha:∀a,(τ a).agg=true){l:A3 A}{xs:A3 AW}{w:AR}{g:Nat}{cap:BA AW}{F5:A3 Ty}(hxs:DQ H (lT τ l) xs)
 (sub:∀r o,H r=some o->w.heap[r]? =some o)(gl:LR P H)(hB:H blk=none)(Qy:Ed H F5 cap.toList)
 (hf:∀a r,c a=some r-> @Eg DR.strict P g ([τ a.1,τ a.2]++F5) (.vs [Aw r]))[Inhabited<|Fin l.length](m:Nat)(os:BA Obj)(dk:BA (Fin l.length))(x y:Fin l.length){b:Bool}(hb:c (l[x],l[y])=some b):Calls P g (#[.agg (chunk k xs x).toArray,.agg (chunk k xs y).toArray]++cap) (sortWorldK (λi:Fin l.length=>chunk k xs i) k w blk off m dk os) λe w'=>e= .returned (.bool b)/\∃q os',w'=Go.Sort.grow ((sortWorldK (λi:Fin l.length=>chunk k xs i) k w blk off m dk os).drewN q) os':=by
 let⟨_,hc⟩:=Tc hn ha hxs;have hs:∀r o,H r=some o->(sortWorldK (λi:Fin l.length=>chunk k xs i) k w blk off m dk os).heap[r]? =some o:=λr o h=>by have h1:=sub r o h;rw[Xk (lt_of_heap h1) (λe=>by rw[e,hB] at h;cases h)];exact h1
 have hr:=Eg.run (D:=DR.strict) (hf (l[x],l[y]) _ hb) _ H ([Value.agg (chunk k xs x).toArray,Value.agg (chunk k xs y).toArray]++cap.toList) hs gl<|YV ⟨_,_,rfl,hc x x.2,_,_,rfl,hc y y.2,rfl⟩ Qy
 have ea:([Value.agg (chunk k xs x).toArray,Value.agg (chunk k xs y).toArray]++cap.toList).toArray= #[Value.agg (chunk k xs x).toArray,Value.agg (chunk k xs y).toArray]++cap:=AV;rw[ea] at hr;refine hr.mono ?_;rintro e w' ⟨v,rfl,hb,H',_,_,hv⟩;have hv:v= .bool b:=hv;subst hv;exact⟨rfl,aaU hb⟩
theorem uX{cs:BA AW}:(Builtin.zeroCells cs n).toList.length=n*cs.size:=by simp[Builtin.zeroCells]
theorem aep{cs:BA AW}(h:∀v∈cs.toList,v.oneCell'=true):∀v∈(Builtin.zeroCells cs n).toList,v.oneCell'=true:=by
 intro v hv;unfold Builtin.zeroCells at hv;rw[Array.toList_map,BR] at hv;obtain⟨i,hi,rfl⟩:=hv;have hi:i<n*cs.size:=by simpa using hi
 have hp:0<cs.size:=(LL cs.size).elim (λe=>by rw[e] at hi;simp at hi) id;have hm:=OS i hp;rw[KA cs (i%cs.size) hm];exact h _ AV
theorem aeE{P:CO}{W:AR}{S E ty:Ap}{z:AW}{c s:Nat}{F:BA AW}(hS:P.underlying S=some (.slice E))(hz:∀w,(zeroValue E).run P w= .ok z w)(h1:∀v∈z.cells.toList,v.oneCell'=true)(h:Holds id W blk off F)
 (hs:s+n*z.cells.size<=F.size)(hn:0<n):(Builtin.clear_ #[S] ty #[.slice (some ⟨blk,off+s,none⟩) n c]).run P W= .ok (.tuple #[]) (W.setCells blk (off+s) (Builtin.zeroCells z.cells n).toList):=by
 have Et:=stores_of_holds P h s (Builtin.zeroCells z.cells n).toList (by rw[uX];exact hs)<|aep h1
 obtain⟨n,rfl⟩:∃m,n=m+1:=⟨n-1,A4⟩;unfold Builtin.clear_;simp[E0,Ev hS,hz,Et,Result.andThen]
theorem agM[Inhabited<|Fin n]{enc:Fin n->A3 AW}(hk:∀x,(enc x).length=k){i:Nat}(hi:i<dk.size)(x:Fin n):setMany (flatK enc k dk) (i*k) (enc x)=flatK enc k (dk.setIfInBounds i x):=by
 refine ext_get! AV λt ht=>?_
 have ht':t<dk.size*k:=by simpa using ht
 have k0:0<k:=(LL k).elim (λh=>by subst h;simp at ht') id;rw[get_setMany _ _ _ t (by simpa using ht'),get_flatK _ _ _ t ht',get_flatK _ _ _ t (by simpa using ht'),hk];by_cases a:t/k=i
 ·rw[if_pos<|(blk_iff k i t k0).2 a];have m:t-i*k=t%k:=by subst a;rw[Nat.mod_eq_sub_div_mul]
  rw[m,a,KA (dk.setIfInBounds i x) i (by simpa using hi),Array.getElem_setIfInBounds_self]
 ·rw[if_neg<|λh=>a<|(blk_iff k i t k0).1 h];have hd:t/k<dk.size:=Nat.div_lt_of_lt_mul (by rw[MN];exact ht');rw[KA (dk.setIfInBounds i x) (t/k) (by simpa using hd),KA dk (t/k) hd,Array.getElem_setIfInBounds_ne _<|λe=>a e.symm]
theorem alu[Inhabited<|Fin n]{enc:Fin n->A3 AW}{w0 W:AR}(h:SWK enc k w0 blk off dk W)(hk:∀x,(enc x).length=k)(hblk:blk<w0.heap.size){i:Nat}(hi:i<dk.size)(x:Fin n):SWK enc k w0 blk off (dk.setIfInBounds i x) (W.setCells blk (off+i*k)<|enc x):=by
 obtain⟨m,os,rfl⟩:=h;refine⟨m,os,?_⟩;have hb:i*k+k<=dk.size*k:=by
  have:=LN k<|show i+1<=dk.size from hi
  rwa [Kc,Mv] at this
 unfold sortWorldK;rw[setCells_grow os blk _ _ _ (by show blk<(putRowK enc k _ blk off dk).heap.size;rw[size_putRowK];exact hblk)]
 congr 1
 unfold putRowK;rw[setCells_putRow _ _ _ _ _ _ (by rw[hk,size_flatK];exact hb),agM hk hi]
end
end Trn
namespace P5
section
open Go.Shelf Go.Lib Go.Sort
set_option maxHeartbeats 4000000 in
set_option maxRecDepth 1000000 in
theorem ahl{P:Program}(F:P.funcs[220]? =some f220)(mixed:P.follows .mixedOrders=true)(t0:P.underlying 0=prog.underlying 0)(t3:P.underlying 3=some (.int .i64))(a3:∀w,(isAgg 3).run P w= .ok false w)(z3:∀w,(Go.sizeOf 3).run P w= .ok 1 w)(v3:∀w,(zeroValue 3).run P w= .ok (.int .i64 0) w)(t4:P.underlying 4=some .bool)(a4:∀w,(isAgg 4).run P w= .ok false w)(z4:∀w,(Go.sizeOf 4).run P w= .ok 1 w)(t116:P.underlying 116=some (.slice 102))(a116:∀w,(isAgg 116).run P w= .ok false w)(z116:∀w,(Go.sizeOf 116).run P w= .ok 1 w)
  {k:Nat}(a102:∀w,(isAgg 102).run P w= .ok true w)(z102:∀w,(Go.sizeOf 102).run P w= .ok k w)(zv:Value)(v102:∀w,(zeroValue 102).run P w= .ok zv w)(hzs:zv.cells.size=k)(hz1:∀v∈zv.cells.toList,v.oneCell'=true){n:Nat}[Inhabited<|Fin n](enc:Fin n->List Value)(hk:∀x,(enc x).length=k)(h1:∀x,∀v∈enc x,v.oneCell'=true)(g:Nat)(cb:Array Value)(kp:Nat->Bool)(k0:kp 0=true)(blk off cap:Nat)(w:World)
  (eg:∀args w,(callFunc g args).run P w= .ok (.enter g args) w)(hH:HoldsK enc k w blk off (Array.ofFn λi:Fin n=>i))(hblk:blk<w.heap.size)(hcap:n<=cap)(hsz:n<=9223372036854775807)
  (hcmp:∀(m:Nat) (os:Array Obj) (dk:Array (Fin n)) (j:Nat) (hj:j+1<n),Calls P g (#[.agg (enc ⟨j+1,hj⟩).toArray,.agg (enc ⟨j,Nat.lt_of_succ_lt hj⟩).toArray]++cb) (sortWorldK enc k w blk off m dk os) λe w'=>e= .returned (.bool<| !kp (j+1))/\∃q os',w'=grow ((sortWorldK enc k w blk off m dk os).drewN q) os'):Calls P 220 #[.slice (some ⟨blk,off,none⟩) n cap,.func (.func g) #[] cb] w λe w'=>∃kk dk zs W,e= .returned (.slice (some ⟨blk,off,none⟩) kk cap)/\kk=((List.range n).filter kp).length/\SWK enc k w blk off dk W/\dk.size=n/\(dk.toList.take kk).map (·.val)=(List.range n).filter kp/\w'=W.setCells blk (off+kk*k) zs/\zs.length<=(n-kk)*k:=by
 have kz:∀j,j<1->kp j=true:=λj hj=>by obtain rfl:j=0:=Trn.A4;exact k0
 have hpos:0<n:=Fin.pos default;have hd0:(Array.ofFn λi:Fin n=>i).size=n:=Array.size_ofFn;have S0:Aside (SWK enc k w blk off (Array.ofFn λi:Fin n=>i) w):=SWK.start hH;have RR:Aside (RowK enc k w blk off (Array.ofFn λi:Fin n=>i)):=⟨hk,h1,hH,hblk⟩;have CM:Aside (∀(m:Nat) (os:Array Obj) (dk:Array (Fin n)) (j:Nat) (hj:j+1<n),Calls P g (#[.agg (enc ⟨j+1,hj⟩).toArray,.agg (enc ⟨j,Nat.lt_of_succ_lt hj⟩).toArray]++cb) (sortWorldK enc k w blk off m dk os) λe w'=>e= .returned (.bool<| !kp (j+1))/\∃q os',w'=grow ((sortWorldK enc k w blk off m dk os).drewN q) os'):=hcmp;clear hH hk h1 hcmp;have all:∀W,SWK enc k w blk off (Array.ofFn λi:Fin n=>i) W->(∀j,j<n->kp j=true)->∃kk dk zs W',(Ending.returned<| .slice (some ⟨blk,off,none⟩) n cap)= .returned (.slice (some ⟨blk,off,none⟩) kk cap)/\kk=((List.range n).filter kp).length/\SWK enc k w blk off dk W'/\dk.size=n/\(dk.toList.take kk).map (·.val)=(List.range n).filter kp/\W=W'.setCells blk (off+kk*k) zs/\zs.length<=(n-kk)*k:=λW hW hall=>by
  have e:(List.range n).filter kp=List.range n:=List.filter_eq_self.2 λj hj=>hall j<|List.mem_range.1 hj
  refine⟨n,_,[],W,rfl,by rw[e];simp,hW,hd0,?_,rfl,Nat.zero_le _⟩;rw[e,Array.toList_ofFn];apply List.ext_getElem
  ·simp
  ·intro i h1 h2;simp
 have ALL:Aside (∀W,SWK enc k w blk off (Array.ofFn λi:Fin n=>i) W->(∀j,j<n->kp j=true)->∃kk dk zs W',(Ending.returned<| .slice (some ⟨blk,off,none⟩) n cap)= .returned (.slice (some ⟨blk,off,none⟩) kk cap)/\kk=((List.range n).filter kp).length/\SWK enc k w blk off dk W'/\dk.size=n/\(dk.toList.take kk).map (·.val)=(List.range n).filter kp/\W=W'.setCells blk (off+kk*k) zs/\zs.length<=(n-kk)*k):=all;clear all;by_cases h2:n<2
 ·go_enter F,ntmps220
  go_wp2
  go_ret
  exact ALL.out w S0.out λj hj=>kz j Trn.A4
 ·go_enter F,ntmps220
  go_wp2
  go_loopg [5] n (λgg s5 wr=>∃kx:Nat,1<=kx/\kx<=n/\n-kx<=gg/\s5= .int .i64 kx/\Aside (SWK enc k w blk off (Array.ofFn λi:Fin n=>i) wr)/\Aside (∀j,j<kx->kp j=true))
  case atStart=>exact⟨1,Nat.le_refl _,Trn.A4,Trn.A4,by first|rfl|go_num,S0,kz⟩
  case round=>
   clear S0;obtain⟨kx,hk1,hkn,hg,rfl,SW,HA⟩:=hrel;by_cases hlt:kx<n
   ·obtain⟨j,rfl⟩:∃j,kx=j+1:=⟨kx-1,Trn.A4⟩;have jz:(j:Int)+1<(n:Int):=Trn.A4;have jz1:(j:Int)<(n:Int):=Trn.A4;have p0:(0:Int)<=(j:Int)+1:=Trn.A4;have e0:((j:Int)+1).toNat=j+1:=Trn.A4;have hwp:IntKind.i64.wrap (j:Int)=(j:Int):=by rw[IntKind.wrap_i64];omega
    obtain⟨cx,hcx⟩:∃c,(enc ⟨j+1,hlt⟩).toArray=c:=⟨_,rfl⟩;obtain⟨cy,hcy⟩:∃c,(enc ⟨j,Nat.lt_of_succ_lt hlt⟩).toArray=c:=⟨_,rfl⟩;have lj:∀n' os',Sem.run P (loadCellsFrom ⟨blk,off+(j+1)*k,none⟩ 0 k #[]) (grow (wr.drewN n') os')= .ok cx (grow (wr.drewN n') os'):=λn' os'=>by have:=SW.out.ld RR.out (by rw[hd0]) P (j+1) (by rw[hd0];exact hlt) n' os';rw[this,<-hcx,getElem!_pos _ _ (by rw[hd0];exact hlt)];simp
    have lp:∀n' os',Sem.run P (loadCellsFrom ⟨blk,off+j*k,none⟩ 0 k #[]) (grow (wr.drewN n') os')= .ok cy (grow (wr.drewN n') os'):=λn' os'=>by have:=SW.out.ld RR.out (by rw[hd0]) P j (by rw[hd0];omega) n' os';rw[this,<-hcy,getElem!_pos _ _ (by rw[hd0];omega)];simp
    have hcg:∀n' os',Calls P g (#[.agg cx,.agg cy]++cb) (grow (wr.drewN n') os') λe w'=>e= .returned (.bool<| !kp (j+1))/\∃q os'',w'=grow ((grow (wr.drewN n') os').drewN q) os'':=λn' os'=>by let⟨m,os0,hw⟩:=SW.out.grown n' os';rw[hw,<-hcx,<-hcy];exact CM.out m os0 _ j hlt
    cases hkp:kp (j+1) with
    |true=>
     rw[hkp,Bool.not_true] at hcg
     go_wp2_with fail
     go_quiet_grown (first|(go_at_fn g;refine Calls.grown_of<|hcg _ _))
     go_wp2
     go_roundg (n-(j+1+1))
     case measure=>omega
     case rel=>exact⟨j+1+1,Trn.A4,Trn.A4,Nat.le_refl _,by first|rfl|go_num,SW.out.grown nq osq,λi hi=>by
      rcases Nat.lt_or_ge i (j+1) with h|h
      ·exact HA.out i h
      ·have:i=j+1:=Trn.A4;rw[this];exact hkp⟩
    |false=>
     rw[hkp,Bool.not_false] at hcg
     go_wp2_with fail
     go_quiet_grown (first|(go_at_fn g;refine Calls.grown_of<|hcg _ _))
     have SW1:Aside (SWK enc k w blk off (Array.ofFn λi:Fin n=>i)<|grow (wr.drewN nq) osq):=SW.out.grown nq osq;clear lj lp hcg
     generalize grow (wr.drewN nq) osq=wq at SW1⊢
     go_wp2
     go_loopg [5,7] n (λgg s5 s7 wr=>∃(kk k2:Nat) (dk:Array (Fin n)),s5= .int .i64 kk/\s7= .int .i64 k2/\1<=k2/\j+1+k2<=n/\n-(j+1+k2)<=gg/\Aside (SWK enc k w blk off dk wr)/\Aside (Trn.O7 n kp (j+1+k2) kk dk)/\kk<j+1+k2)
     case atStart=>exact⟨j+1,1,_,by first|rfl|go_num,rfl,Nat.le_refl _,Trn.A4,Trn.A4,SW1,Trn.O7.start hlt HA.out hkp,Trn.A4⟩
     case round=>
      clear SW1;obtain⟨kk,k2,dk,rfl,rfl,h21,hle,hg2,SW2,CI,hkk⟩:=hrel;have hdk:dk.size=n:=CI.out.size;by_cases hlt2:j+1+k2<n
      ·obtain⟨i,rfl⟩:∃i,k2=i+1:=⟨k2-1,Trn.A4⟩;have iz:(i:Int)+1<((n-(j+1):Nat):Int):=Trn.A4;have iz1:(i:Int)<((n-(j+1):Nat):Int):=Trn.A4;have q0:(0:Int)<=(i:Int)+1:=Trn.A4;have f0:((i:Int)+1).toNat=i+1:=Trn.A4;have hwq:IntKind.i64.wrap (i:Int)=(i:Int):=by rw[IntKind.wrap_i64];omega
       have ea:off+(j+1)*k+(i+1)*k=off+(j+1+(i+1))*k:=by rw[Nat.add_assoc,<-Nat.add_mul]
       have eb:off+(j+1)*k+i*k=off+(j+1+i)*k:=by rw[Nat.add_assoc,<-Nat.add_mul]
       have ga:dk[j+1+(i+1)]! =⟨j+1+(i+1),hlt2⟩:=by rw[getElem!_pos dk _ Trn.A4];exact CI.out.high _ hlt2 Trn.A4 _
       have gb:dk[j+1+i]! =⟨j+1+i,Nat.lt_of_succ_lt hlt2⟩:=by rw[getElem!_pos dk _ Trn.A4];exact CI.out.high (j+1+i) (Nat.lt_of_succ_lt hlt2) (show j+1+(i+1)-1<=j+1+i by omega) _
       obtain⟨cu,hcu⟩:∃c,enc ⟨j+1+(i+1),hlt2⟩=c:=⟨_,rfl⟩;obtain⟨cv,hcv⟩:∃c,enc ⟨j+1+i,Nat.lt_of_succ_lt hlt2⟩=c:=⟨_,rfl⟩;have lu:∀n' os',Sem.run P (loadCellsFrom ⟨blk,off+(j+1)*k+(i+1)*k,none⟩ 0 k #[]) (grow (wr.drewN n') os')= .ok cu.toArray (grow (wr.drewN n') os'):=λn' os'=>by have:=SW2.out.ld RR.out (by rw[hd0];exact hdk) P (j+1+(i+1)) Trn.A4 n' os';rw[ea,this,ga,hcu]
       have lv:∀n' os',Sem.run P (loadCellsFrom ⟨blk,off+(j+1)*k+i*k,none⟩ 0 k #[]) (grow (wr.drewN n') os')= .ok cv.toArray (grow (wr.drewN n') os'):=λn' os'=>by have:=SW2.out.ld RR.out (by rw[hd0];exact hdk) P (j+1+i) Trn.A4 n' os';rw[eb,this,gb,hcv]
       have hcg:∀n' os',Calls P g (#[.agg cu.toArray,.agg cv.toArray]++cb) (grow (wr.drewN n') os') λe w'=>e= .returned (.bool<| !kp (j+1+(i+1)))/\∃q os'',w'=grow ((grow (wr.drewN n') os').drewN q) os'':=λn' os'=>by let⟨m,os0,hw⟩:=SW2.out.grown n' os';rw[hw,<-hcu,<-hcv];exact CM.out m os0 dk (j+1+i) hlt2
       have GU:Aside (dk[j+1+(i+1)]! =⟨j+1+(i+1),hlt2⟩/\enc ⟨j+1+(i+1),hlt2⟩=cu):=⟨ga,hcu⟩;clear ea eb ga gb hcu hcv;cases hkq:kp (j+1+(i+1)) with
       |true=>
        rw[hkq,Bool.not_true] at hcg
        go_wp2_with fail
        go_quiet_grown (first|(go_at_fn g;refine Calls.grown_of<|hcg _ _))
        have SW3:Aside (SWK enc k w blk off dk<|grow (wr.drewN nq) osq):=SW2.out.grown nq osq;have l3:=lu nq osq;clear lu lv hcg SW2
        generalize grow (wr.drewN nq) osq=wq at SW3 l3⊢
        have n3:cu.length=k:=by rw[<-GU.out.2];exact RR.out.hk _
        have s3:Sem.run P (storeCells ⟨blk,off+kk*k,none⟩ cu 0) wq= .ok () (wq.setCells blk (off+kk*k) cu):=by rw[<-GU.out.2];exact stores_of_holds P (SW3.out.holds RR.out.hblk RR.out.hH (by rw[hdk,hd0])) (kk*k) _ (by rw[RR.out.hk,size_flatK];exact rowK_bnd dk k kk Trn.A4)<|RR.out.h1 _
        have kz1:(kk:Int)<(n:Int):=Trn.A4
        go_wp2
        go_roundg (n-(j+1+(i+1+1)))
        case measure=>omega
        case rel=>exact⟨kk+1,i+1+1,dk.setIfInBounds kk ⟨j+1+(i+1),hlt2⟩,by first|rfl|go_num,by first|rfl|go_num,Trn.A4,Trn.A4,Nat.le_refl _,by show SWK _ _ _ _ _ _ _;rw[<-GU.out.2];exact Trn.alu SW3.out RR.out.hk RR.out.hblk Trn.A4 _,CI.out.E3 hlt2 hkq,Trn.A4⟩
       |false=>
        rw[hkq,Bool.not_false] at hcg
        go_wp2_with fail
        go_quiet_grown (first|(go_at_fn g;refine Calls.grown_of<|hcg _ _))
        have SW3:Aside (SWK enc k w blk off dk<|grow (wr.drewN nq) osq):=SW2.out.grown nq osq;clear lu lv hcg SW2
        generalize grow (wr.drewN nq) osq=wq at SW3⊢
        go_wp2
        go_roundg (n-(j+1+(i+1+1)))
        case measure=>omega
        case rel=>exact⟨kk,i+1+1,dk,rfl,by first|rfl|go_num,Trn.A4,Trn.A4,Nat.le_refl _,SW3,CI.out.skip hkq,Trn.A4⟩
      ·have hend:j+1+k2=n:=Trn.A4;have hcl:∀ty,(Builtin.clear_ #[116] ty #[.slice (some ⟨blk,off+kk*k,none⟩) (n-kk)<|cap-kk]).run P wr= .ok (.tuple #[]) (wr.setCells blk (off+kk*k) (Builtin.zeroCells zv.cells<|n-kk).toList):=λty=>Trn.aeE t116 v102 hz1 (SW2.out.holds RR.out.hblk RR.out.hH (by rw[hdk,hd0])) (by rw[hzs,size_flatK,hdk,<-Nat.add_mul];exact Nat.mul_le_mul_right k Trn.A4) Trn.A4
       have kz1:(kk:Int)<=(n:Int):=Trn.A4;have hzl:(Builtin.zeroCells zv.cells<|n-kk).toList.length<=(n-kk)*k:=by rw[Trn.uX,hzs];exact Nat.le_refl _
       generalize (Builtin.zeroCells zv.cells<|n-kk).toList=zl at hcl hzl
       clear v102 hzs hz1
       go_wp2
       go_ret
       have C:=CI.out;rw[hend] at C;exact⟨kk,dk,zl,wr,rfl,C.len<|Nat.le_refl _,SW2.out,hdk,C.low,rfl,hzl⟩
   ·have:kx=n:=Trn.A4;subst this
    go_wp2
    go_ret
    exact ALL.out wr SW.out HA.out
set_option maxHeartbeats 4000000 in
set_option maxRecDepth 1000000 in
theorem ahm(p:Option Addr)(m:Nat)(hm:m<2)(cap:Nat)(fv:Value)(w:World):Calls prog 220 #[.slice p m cap,fv] w λe w'=>e= .returned (.slice p m cap)/\w'=w:=by
 go_enter func220,ntmps220
 go_wp2
 go_ret
 exact⟨rfl,rfl⟩
end
end P5
namespace Trn
section
open Go.Shelf Go.Sort
variable[D:DR]
variable{α:Type}{blk:Nat}
def flags{α:Type}(l:A3 α)(bs:A3 Bool):A3 α:=((l.zip bs).filter (·.2)).map (·.1)
theorem xC{α:Type}{e:α->α->AA Bool}:∀{l:A3 α} {x:α} {r:A3 α},Wy e x l=some r->∃bs:A3 Bool,bs.length=l.length/\(∀j (hj:j<l.length) (h2:j<(x::l).length) (h3:j<bs.length),e l[j] (x::l)[j]=some (!bs[j]))/\r=flags l bs
 |[],x,r,h=>by cases h;exact⟨[],rfl,λj hj=>absurd hj<|Nat.not_lt_zero _,rfl⟩
 |y::l,x,r,h=>by
  let⟨b,hb,h⟩:=No h;let⟨r',hr,h⟩:=No h;let⟨bs,h1,h2,h3⟩:=xC hr;have h:=E9 h;refine⟨(!b)::bs,by simp[h1],λj hj hj2 hj3=>?_,?_⟩
  ·grind
  ·rw[<-h,h3];cases b<;>simp[flags]
theorem w9{α:Type}:∀{l:A3 α} {bs:A3 Bool},bs.length=l.length->((List.range l.length).filter λj=>bs.getD j true).map (λj=>l[j]?)=(flags l bs).map some
 |[],[],_=>rfl
 |[],_::_,h=>by simp at h
 |_::_,[],h=>by simp at h
 |x::l,b::bs,h=>by
  have ih:=w9 (l:=l) (bs:=bs) (by simpa using h);rw[E7,List.range_succ_eq_map,ZU,List.filter_map];have e:(λj=>(b::bs).getD j true)∘Nat.succ=λj=>bs.getD j true:=by funext j;simp
  rw[e];have e2:(((List.range l.length).filter λj=>bs.getD j true).map Nat.succ).map (λj=>(x::l)[j]?)=(flags l bs).map some:=by rw[<-ih,U6];apply iU;intro j _;simp
  cases b
  ·simpa[flags] using e2
  ·simpa[flags] using e2
theorem afX{l r:A3 α}{c:α×α->AA Bool}(h:Yg l c=some r):∃kp:Nat->Bool,kp 0=true/\(∀j (hj:j+1<l.length),c (l[j+1],l[j])=some (!kp (j+1)))/\((List.range l.length).filter kp).map (λj=>l[j]?)=r.map some:=by
 cases l with
 |nil=>cases h;exact⟨λ_=>true,rfl,λj hj=>absurd hj<|Nat.not_lt_zero _,rfl⟩
 |cons x l=>
  let⟨r',hr,h⟩:=No h;have h:=E9 h;let⟨bs,h1,h2,h3⟩:=xC hr;refine⟨λj=>(true::bs).getD j true,rfl,λj hj=>?_,?_⟩
  ·grind
  ·rw[w9 (l:=x::l) (bs:=true::bs) (by simp[h1]),<-h,h3];simp[flags]
theorem ado{W:AR}{o:Nat}{cur:BA AW}{E:Ap}{fr:Nat×Nat}{v:AW}(h:W.heap[blk]? =some (.cells cur E fr)):(W.setCell ⟨blk,o,none⟩ v).heap[blk]? =some (.cells (cur.setIfInBounds o v) E fr):=by simp[World.setCell,UG,h]
theorem tY{blk:Nat}{E:Ap}{fr:Nat×Nat}:∀{vs:A3 AW} {W:AR} {o:Nat} {cur:BA AW},W.heap[blk]? =some (.cells cur E fr)->(W.setCells blk o vs).heap[blk]? =some (.cells (setMany cur o vs) E fr)
 |[],_,_,_,h=>h
 |v::vs,W,o,cur,h=>tY (vs:=vs)<|ado h
theorem vU{blk:Nat}:∀{vs:A3 AW} {W:AR} {o:Nat},Ee W (W.setCells blk o vs) (some blk)
 |[],W,o=>⟨⟨rfl,rfl,rfl,BM _,λ_ _ _=>rfl⟩,BM _⟩
 |v::vs,W,o=>by have h:=vU (blk:=blk) (vs:=vs) (W:=W.setCell ⟨blk,o,none⟩ v) (o:=o+1);refine⟨⟨h.os,h.tape,h.output,Cu (by simp[World.setCell]) h.size,λk hk hne=>?_⟩,h.drawn⟩;have h1:=h.block k (by simpa[World.setCell] using hk) hne;show(World.setCells _ blk (o+1) vs).heap[k]? =_;rw[h1];exact Below.heap_setCell _ _ _ _ (λe=>hne (by rw[e]))
theorem vJ{m:Nat}:∀{vs:A3 AW} {F:BA AW} {s:Nat},m<=s->(setMany F s vs).toList.take m=F.toList.take m
 |[],_,_,_=>rfl
 |v::vs,F,s,h=>by rw[setMany,vJ (vs:=vs) A4,im,List.take_set_of_le h]
theorem ael[Inhabited α]{enc:α->A3 AW}{k:Nat}{w:AR}{m:Nat}{dk:BA α}{os:BA Obj}:Ee w (sortWorldK enc k w blk 0 m dk os) (some blk):=by refine⟨⟨rfl,rfl,rfl,lC,λi hi hne=>Xk hi (λe=>hne (by rw[e]))⟩,?_⟩;refine H5.of ?_;show w.drawn<=(sortWorldK _ k w blk 0 m dk os).drawn;unfold sortWorldK Go.Sort.grow Go.Sort.putRowK Go.Sort.putRow Go.Sort.mapBlock Go.Sort.ahead;exact UA _ _
theorem Ee.trans{w w1 w2:AR}{row:AA Nat}(h:Ee w w1 row)(k:Ee w1 w2 row):Ee w w2 row:=⟨⟨k.os.trans h.os,k.tape.trans h.tape,k.output.trans h.output,Cu h.size k.size,λi hi hne=>(k.block i (Jn hi h.size) hne).trans<|h.block i hi hne⟩,Cu h.drawn k.drawn⟩
end
section
open Go.Shelf Go.Sort
variable[D:DR]
variable{P:Program}{A:Type}{τ:A->Ty}{k:Nat}{c:A×A->Option Bool}{f E:Nat}
theorem ag1(hc:Gi P f=true)(hn:∀a,(τ a).n=k)(ha:∀a,(τ a).agg=true)
  (rO:∀(p:AA Addr) (m:Nat) (hm:m<2) (cap:Nat) (fv:AW) (w:AR),Calls P f #[.slice p m cap,fv] w λe w'=>e= .returned (.slice p m cap)/\w'=w)
  (aqc:∀{n:Nat} [Inhabited<|Fin n] (enc:Fin n->A3 AW) (hk:∀x,(enc x).length=k) (h1:∀x,∀v∈enc x,v.oneCell'=true) (g:Nat) (cb:BA AW) (kp:Nat->Bool) (k0:kp 0=true) (blk off cap:Nat) (w:AR)
   (eg:∀args w,(callFunc g args).run P w= .ok (.enter g args) w) (hH:HoldsK enc k w blk off (Array.ofFn λi:Fin n=>i)) (hblk:blk<w.heap.size) (hcap:n<=cap) (hsz:n<=9223372036854775807)
   (hcmp:∀(m:Nat) (os:BA Obj) (dk:BA (Fin n)) (j:Nat) (hj:j+1<n),Calls P g (#[.agg (enc ⟨j+1,hj⟩).toArray,.agg (enc ⟨j,Nat.lt_of_succ_lt hj⟩).toArray]++cb) (sortWorldK enc k w blk off m dk os) λe w'=>e= .returned (.bool<| !kp (j+1))/\∃q os',w'=Go.Sort.grow ((sortWorldK enc k w blk off m dk os).drewN q) os'),Calls P f #[.slice (some ⟨blk,off,none⟩) n cap,.func (.func g) #[] cb] w λe w'=>∃kk dk zs W,e= .returned (.slice (some ⟨blk,off,none⟩) kk cap)/\kk=((List.range n).filter kp).length/\SWK enc k w blk off dk W/\dk.size=n/\(dk.toList.take kk).map (·.val)=(List.range n).filter kp/\w'=W.setCells blk (off+kk*k) zs/\zs.length<=(n-kk)*k)
  {l r:A3 A}(hm:Yg l c=some r):jB P f E k (lT τ l) [L3 P (λx:A×A=>[τ x.1,τ x.2]) (λx:Bool=>[Aw x]) c] (lT τ r):=by
 let⟨kp,hk0,hkp,hkr⟩:=afX hm;refine⟨hc,λw H v xs vs sub gl hown Ax hH hvs=>?_⟩;obtain⟨fv,rfl,hfv⟩:=PY hvs;obtain⟨g,cap,F5,rfl,Qy,hf⟩:=hfv;have hlen:(lT τ l).length=l.length:=BY ..;rw[hlen] at hown;by_cases hl0:l.length<2
 ·have hr:r=l:=by
   match l,hl0 with
   |[],_=>cases hm;rfl
   |[x],_=>cases hm;rfl
   |a::b::t,h=>simp[E7] at h;omega
  subst hr;obtain⟨p,Eh,rfl⟩:∃p Eh,v= .slice p r.length Eh:=by
   rcases hown.2 with⟨hv,h0⟩|⟨g,cap,cur,hv,_⟩
   ·grind
   ·grind
  refine(rO p r.length hl0 Eh _ w).mono ?_;rintro e w' ⟨rfl,rfl⟩;exact⟨_,rfl,⟨⟨rfl,rfl,rfl,BM _,λ_ _ _=>rfl⟩,BM _⟩,xs,by rw[hlen];exact hown,Ax,λb hb=>hb⟩
 ·have hpos:0<l.length:=A4;obtain⟨blk,Eh,cur,rfl,hblk,hnc,hcm,hcs,htake⟩:∃blk Eh cur,v= .slice (some ⟨blk,0,.none⟩) l.length Eh/\w.heap[blk]? =some (.cells cur E (0,0))/\l.length<=Eh/\Eh<=maxLen/\cur.size=Eh*k/\cur.toList.take (l.length*k)=xs:=by
   rcases hown.2 with⟨_,hz⟩|⟨g,cap,cur,hv,_,r⟩
   ·omega
   ·grind
  haveI:Inhabited (Fin l.length):=⟨⟨0,hpos⟩⟩
  let⟨GS,KX⟩:=Tc hn ha Ax;have hB:H blk= .none:=hH blk rfl;have Um:∀j (hj:j+1<l.length),Gi P g=true:=λj hj=>Eg.can (D:=DR.strict)<|hf _ _<|hkp j hj
  have main:=aqc (λi:Fin l.length=>chunk k xs i) (λi=>Th GS i.2) (λi u hu=>Rx Ax u<|UF<|Qk hu) g cap kp hk0 blk 0 Eh w
   (λargs w=>PE (Um 0 A4) args w) (vT GS hblk htake) (lt_of_heap hblk) hnc (Cu hnc hcm)
   (λm os dk j hj=>anZ (off:=0) hn ha Ax sub gl hB Qy hf m os dk ⟨j+1,hj⟩ ⟨j,Nat.lt_of_succ_lt hj⟩<|hkp j hj)
  refine main.mono ?_;rintro e w' ⟨kk,dk,zs,W,rfl,hkk,⟨m,os,rfl⟩,hdk,XD,rfl,hzs⟩;have hlr:(dk.toList.take kk).map (λi=>l[i])=r:=by
   have h1:((dk.toList.take kk).map λi=>l[i]).map some=r.map some:=by rw[<-hkr,<-XD,U6,U6];apply iU;intro i _;simp
   exact(List.map_inj_right<|λa b h=>E9 h).1 h1
  have K2:kk<=l.length:=AK;have hrk:r.length=kk:=AK;have Ky:(flatK (λi:Fin l.length=>chunk k xs i) k dk).size=l.length*k:=by rw[size_flatK,hdk]
  have hle:l.length*k<=cur.size:=AK;have hkm:kk*k<=l.length*k:=LN k K2;have Hf:=tY (vs:=zs) (o:=0+kk*k)<|tP (enc:=λi:Fin l.length=>chunk k xs i) (k:=k) (m:=m) (dk:=dk) (os:=os) hblk
  have O5:=uz (α:=Fin l.length) (d:=flatK (λi:Fin l.length=>chunk k xs i) k dk) (cur:=cur) (by rw[Ky];exact hle);rw[Ky] at O5;refine⟨_,rfl,ael.trans vU,(flatK (λi:Fin l.length=>chunk k xs i) k dk).toList.take<|kk*k,?_,?_,λb hb=>hb⟩
  ·rw[BY,hrk];refine⟨by rw[E1,Fg,Ky];exact EV hkm,.inr ⟨blk,Eh,_,rfl,FY _,Hf,A4,hcm,?_,?_⟩⟩
   ·rw[size_setMany,<-hcs];simp[Go.Sort.putCells]
   ·rw[vJ A4,<-O5,OU,EV hkm]
  ·refine df (by rw[E1,Fg,Ky,hrk];exact EV hkm) λi hi=>?_
   have hi2:i<dk.size:=A4;have ec:chunk k ((flatK (λi:Fin l.length=>chunk k xs i) k dk).toList.take<|kk*k) i=chunk k (flatK (λi:Fin l.length=>chunk k xs i) k dk).toList i:=by
    have hb:i*k+k<=kk*k:=by have:=LN k (show i+1<=kk by omega);rwa [Kc,Mv] at this
    unfold chunk;rw[MU,OU,EV (by rw[Nat.le_sub_iff_add_le A4];omega)]
   rw[ec,nW (λi=>Th GS i.2) hi2,KA dk i hi2];have e:r[i]=l[dk[i]]:=AK;rw[e];exact KX _ dk[i].2
end
section
variable{l:A3 Int}{x:Int}{n:Nat}{y q:Int}{s:Nat}{r:Int×A3 Int}{ρ:Type}{R:ρ->Prop}{a:A3 Int}{α:Type}{b:A3 Int}{y1 y0 N d z:Int}{m k:Nat}{K:α->AA ρ}{X Y u0 v0 v1:Int}{w:A3 Int}{P UL VL U2:Int}
def Yd{ρ:Type}(R:ρ->Prop)(o:AA ρ):Prop:=∃r,o=some r/\R r
def AU{x:ρ}(h:R x):Yd R (some x):=⟨x,rfl,h⟩
def A6{e:AA α}{x:α}(h:e=some x)(k:Yd R (K x)):Yd R (Trn.bd e K):=by subst h;exact k
def GJ{o:AA α}{r:α}(h:Yd (λx=>x=r) o):o=some r:=by obtain⟨x,e,rfl⟩:=h;exact e
theorem Aq{S:α->Prop}{e:AA α}(h:Yd S e)(k:∀x,S x->Yd R (K x)):Yd R (Trn.bd e K):=by grind [Yd,bd]
theorem Ad{b:Bool}{x y:AA ρ}(hx:b=true->Yd R x)(hy:b=false->Yd R y):Yd R (cond b x y):=by grind
def Yd.gC{ρ:Type}{R:ρ->Prop}{b:Bool}{x:AA ρ}(hb:b=true)(hx:Yd R x):Yd R (Trn.gC b x):=by subst hb;exact hx
def GO{g:Bool}{d:α}{e:AA α}(h1:g=true->∃x,e=some x/\Yd R (K x))(h2:g=false->Yd R (K d)):Yd R (Trn.Au g d e K):=by
 cases g
 ·exact h2 rfl
 ·obtain⟨x,rfl,h⟩:=h1 rfl;exact h
def DJ(I:α->Prop){E:(α->AA ρ)->AA ρ}(hK:∀s,I s->Yd R (K s))(hE:∀k,(∀s,I s->Yd R (k s))->Yd R (E k)):Yd R (Trn.jn K E):=hE K hK
def EP{σ ρ:Type}{R:ρ->Prop}{B:(σ->AA ρ)->σ->AA ρ}(I:σ->Prop)(μ:σ->Nat)(h:∀next s,I s->(∀s',I s'->μ s'<μ s->Yd R (next s'))->Yd R (B next s)):∀(F:Nat) (s:σ),I s->μ s<F->Yd R (Trn.lp F B s)
 |0,s,_,h=>by omega
 |F+1,s,hi,hm=>h _ s hi λs' hi' KV=>EP I μ h F s' hi' A4
theorem Yd.imp{S:ρ->Prop}{o:AA ρ}(h:Yd R o)(k:∀r,R r->S r):Yd S o:=by grind [Yd]
def EO{n:Int}(h:Cp n):AH n=some n:=by
 unfold Cp at h;unfold AH He;rw[B5 h.1,B5 h.2]
 rfl
def BC{n:Int}(h: -9223372036854775808<=n/\n<=9223372036854775807:=by omega):AH n=some n:=EO h
theorem UN{i:Int}(h0:0<=i)(h1:i<l.length):AB l i=some (l.getD i.toNat 0):=by grind [AB]
def Bf(h:n<l.length):AB l (n:Int)=some (l.getD n 0):=by show l[n]? =_;simp[h]
theorem Px{b:Nat}{n:Int}{z:α}(h0:0<=n)(h1:b*n<=140737488355328)(hb:1<=b):mk_ b n z=some (List.replicate n.toNat z):=by induction b<;>grind [mk_]
theorem E6{l:A3 α}{lo hi:Int}(h0:0<=lo)(h1:lo<=hi)(h2:hi<=l.length):C7 l lo hi=some ((l.take hi.toNat).drop lo.toNat):=by grind [C7]
theorem ao3{k:IntKind}(h:0<=y):Md k x y=some (x.fdiv<|2^(min y.toNat k.bits)):=by grind [Md]
theorem ao4{k:IntKind}(h:0<=y):Me k x y=some (k.wrap<|x*2^(min y.toNat k.bits)):=by grind [Me]
abbrev BB:Int:=18446744073709551616
def B0(n:Nat):Int:=BB^n
def Yp:B0 0=1:=rfl
def Jj(n:Nat):B0 (n+1)=BB*B0 n:=by unfold B0;rw[Int.pow_succ,FD]
def Lm:∀n,0<B0 n
 |0=>by rw[Yp];omega
 |n+1=>by rw[Jj];have:=Lm n;unfold BB;omega
theorem gW(m n:Nat):B0 (m+n)=B0 m*B0 n:=by grind [B0]
def NS(x:Int)(l:A3 Int):AN (x::l)=x+BB*AN l:=rfl
def VV:∀(l m:A3 Int),AN (l++m)=AN l+B0 l.length*AN m
 |[],m=>by simp[AN,Yp]
 |x::l,m=>by rw[SI,NS,NS,VV l m,E7,Jj,DS,FO];omega
def ZB:okW []:=by intro x h;cases h
theorem PT:okW (x::l)↔(0<=x/\x<BB)/\okW l:=by simp_all [okW,BB]
theorem wV{m:A3 Int}:okW (l++m)↔okW l/\okW m:=by grind [okW]
theorem MI(h:okW l)(n:Nat):okW (l.take n):=by grind [okW]
theorem Rw(h:okW l)(n:Nat):okW (l.drop n):=by grind [okW]
theorem Fp(h:okW l)(n:Nat):0<=l.getD n 0/\l.getD n 0<BB:=by
 by_cases hn:n<l.length
 ·have:l.getD n 0=l[n]:=by simp[JL,hn]
  rw[this];exact h _<|Ly hn
 ·grind
theorem VJ(n:Nat):okW (List.replicate n 0):=by grind [okW]
theorem Kb(h:okW l)(n:Nat)(hx:0<=x/\x<BB):okW (l.set n x):=by(simp_all [okW,BB]<;>grind)
def lK:∀n,AN (List.replicate n 0)=0
 |0=>rfl
 |n+1=>by rw[List.replicate_succ,NS,lK n];omega
def Gh:∀{l:A3 Int},okW l->0<=AN l/\AN l<B0 l.length
 |[],_=>by simp[AN,Yp]
 |x::l,h=>by rw[PT] at h;let⟨h1,h2⟩:=Gh h.2;rw[NS,E7,Jj];have:=h.1;unfold BB at*;omega
theorem dF(h:n<l.length):l.take (n+1)=l.take n++[l.getD n 0]:=by simp_all
def Xm(h:n<l.length):AN (l.take<|n+1)=AN (l.take n)+B0 n*l.getD n 0:=by rw[dF h,VV,E1,EV A4];simp[AN]
def Ri(l:A3 Int)(n:Nat)(h:n<=l.length):AN l=AN (l.take n)+B0 n*AN (l.drop n):=by
 conv=>lhs;rw[<-Oj n l]
 rw[VV,E1,EV h]
def Td:∀{l:A3 Int},okW l->l≠[]->l.getLast?≠some 0->B0 (l.length-1)<=AN l
 |[],_,h,_=>absurd rfl h
 |[x],h,_,hl=>by
  rw[PT] at h;have:x≠0:=λe=>hl (by rw[e];rfl)
  simp[AN,Yp];omega
 |x::y::l,h,_,hl=>by rw[PT] at h;have:=Td (l:=y::l) h.2 AV (by simpa using hl);rw[NS,show(x::y::l).length-1=(y::l).length-1+1 from by simp,Jj];have:=h.1;unfold BB at*;omega
def aiP(h:n<l.length)(x:Int):l.set n x=l.take n++x::l.drop (n+1):=by rw[List.set_eq_take_append_cons_drop,if_pos h]
def HI(h:n<=m)(x:Int):(l.set m x).take n=l.take n:=by rw[List.take_set_of_le h]
theorem getD_set_ne(h:n≠m)(x:Int):(l.set m x).getD n 0=l.getD n 0:=by grind
theorem JE(h:n<l.length)(x:Int):(l.set n x).getD n 0=x:=by grind
def Norm(w:A3 Int):Prop:=okW w/\w.getLast?≠some 0
def Norm.nil:Norm []:=⟨ZB,AV⟩
def Norm.len(h:Norm w)(hv:AN w<B0 n):w.length<=n:=by
 by_cases h0:w=[]
 ·subst h0;simp
 ·have h1:=Td h.1 h0 h.2;rcases Hk n w.length with h2|h2
  ·have:B0 n<=B0 (w.length-1):=by obtain⟨k,hk⟩:∃k,w.length-1=n+k:=⟨w.length-1-n,A4⟩;rw[hk,gW];have a:=Lm n;have b:=Lm k;have:B0 n*1<=B0 n*B0 k:=Ew A4 A4;omega
   omega
  ·exact h2
theorem EB{a b:Bool}(h:(a&&b)=true):a=true/\b=true:=by grind
def Ry(ha:okW a)(hl:a.length<4611686018427387904):Yd (λw=>Norm w/\AN w=AN a/\w.length<=a.length) (OI a):=by
 unfold OI;refine EP (λs:Int=>0<=s/\s<=a.length/\AN (a.take s.toNat)=AN a) (λs:Int=>s.toNat) ?_ _ _ ⟨A4,A4,AV⟩ DC;rintro next s ⟨h0,h1,h2⟩ hn
 refine GO (λhg=>?_)<|λhg=>?_
 ·have hs:0<s:=As hg;refine⟨s-1,EO ⟨A4,A4⟩,GO (λ_=>⟨a.getD (s-1).toNat 0,UN A4 A4,Ad (λhc=>?_)<|λhc=>?_⟩) (λh=>by rw[hg] at h;cases h)⟩
  ·let⟨_,hz⟩:=EB hc;have hz:=As hz;refine A6 BC<|hn _ ⟨A4,A4,?_⟩ A4
   have e:s.toNat=(s-1).toNat+1:=A4;rw[e,Xm A4,hz,U5,W6] at h2;exact h2
  ·refine A6 (E6 A4 h0 h1) (AU ⟨⟨MI ha _,?_⟩,h2,DC⟩);rw[B5 hs,Lt] at hc;have hz:=Bg hc;have e:s.toNat=(s-1).toNat+1:=A4;show(a.take s.toNat).getLast?≠some 0;rw[e,dF A4];simpa using hz
 ·have hs: ¬0<s:=Bg hg;have hs:s=0:=A4;subst hs;refine GO (λh=>by rw[hg] at h;cases h) (λ_=>Ad (λhc=>by simp at hc) (λ_=>A6 (E6 A4 A4 h1) (AU ⟨by simpa using Norm.nil,by simpa using h2,AV⟩)))
theorem afl(ha:okW a)(hb:okW b)(hla:a.length<4398046511104)(hlb:b.length<4398046511104):Yd (λw=>Norm w/\AN w=AN a+AN b) (Xt a b):=by
 unfold Xt;refine DJ (λs:A3 Int×A3 Int=>okW s.1/\okW s.2/\s.2.length<=s.1.length/\s.1.length<4398046511104/\AN s.1+AN s.2=AN a+AN b) ?_ λk hk=>Ad (λhc=>?_)<|λhc=>?_
 rotate_left
 ·grind
 ·grind
 rintro⟨x,y⟩ ⟨hx,hy,hl,hlx,hv⟩;simp only at hx hy hl hlx hv⊢;rw[<-hv];refine A6 BC<|A6 (Px A4 A4 A4) ?_
 refine EP (λs:A3 Int×Int×Int=>okW s.1/\s.1.length=x.length+1/\(s.2.1=0\/s.2.1=1)/\0<=s.2.2/\s.2.2<=x.length/\AN (s.1.take s.2.2.toNat)+B0 s.2.2.toNat*s.2.1=AN (x.take s.2.2.toNat)+AN (y.take s.2.2.toNat))
  (λs:A3 Int×Int×Int=>x.length-s.2.2.toNat) ?_ _ _ ⟨VJ _,by simp only[Nl];omega,.inl rfl,by dsimp;omega,by dsimp;omega,by simp[AN]⟩ (by dsimp;omega)
 rintro next ⟨o,c,i⟩ ⟨h1,h2,h3,h4,h5,h6⟩ hn
 simp only at h1 h2 h3 h4 h5 h6 hn⊢;obtain⟨n,rfl⟩:=F2 h4;simp only[Ce,MV] at*;refine Ad (λhc=>?_)<|λhc=>?_
 ·have hc:=As hc;refine DJ (λv=>v=y.getD n 0) ?_ λk hk=>Ad (λhd=>?_)<|λhd=>?_
  ·rintro v rfl;let⟨p1,p2⟩:=Fp hx n;let⟨q1,q2⟩:=Fp hy n;refine A6 (UN A4 A4) ?_;simp only[Ce]
   generalize hX:x.getD n 0=X at*
   generalize hY:y.getD n 0=Y at*
   have bJ:Lq X Y c=some ((X+Y+c)%BB,(X+Y+c)/BB):=by unfold Lq HB;rw[B5 p1,B5 p2,B5 q1,B5 q2];rcases h3 with rfl|rfl<;>rfl
   refine A6 bJ<|A6 (UN A4 A4)<|A6 (UN A4 A4)<|A6 BC ?_
   have hdm:=Oi (X+Y+c) BB;have Kv:0<=(X+Y+c)%BB:=Lw _ (by unfold BB;omega);have hr1:(X+Y+c)%BB<BB:=LK _ (by unfold BB;omega);have hq:(X+Y+c)/BB=0\/(X+Y+c)/BB=1:=AK;refine hn _ ⟨Kb h1 _ ⟨Kv,hr1⟩,by simpa using h2,hq,by dsimp;omega,by dsimp;omega,?_⟩ (by dsimp;omega);have e:(((n:Nat):Int)+1).toNat=n+1:=A4;simp[e,Ce];rw[Xm (by simpa using by omega),HI<|BM _,JE A4,Xm A4,hX,Jj];have hy':AN (y.take<|n+1)=AN (y.take n)+B0 n*Y:=by
    rcases Hk n y.length with h|h
    ·rw[Xm h,hY]
    ·have:Y=0:=by rw[<-hY];simp[JL,h]
     rw[this,Cz A4,Cz h];omega
   rw[hy'];have key:B0 n*((X+Y+c)%BB)+BB*B0 n*((X+Y+c)/BB)=B0 n*(X+Y+c):=AK;have k2:B0 n*(X+Y+c)=B0 n*X+B0 n*Y+B0 n*c:=AK;omega
  ·have hd:=As hd;exact A6 (UN A4 hd)<|hk _ AV
  ·grind
 ·have hc:=Bg hc;have HT:n=x.length:=A4;subst HT;refine A6 (UN A4 A4)<|A6 (UN A4 A4) ?_
  have FI:0<=c/\c<BB:=by unfold BB;omega
  refine Aq (Ry (Kb h1 x.length FI) DC) λw ⟨w1,w2,_⟩=>AU ⟨w1,?_⟩
  have e1:=Ri (o.set x.length c) x.length (by rw[LJ];omega);have e2:(o.set x.length c).drop x.length=[c]:=by rw[aiP A4,Nf,N2 (by rw[E1];omega)];have:(o.drop<|x.length+1)=[]:=N2 A4;rw[this,E1,EV A4];simp
  rw[e2,HI<|BM _] at e1;rw[Cz (l:=x) A4,Cz (l:=y) A4] at h6;rw[show AN [c]=c from by simp[AN]] at e1;omega
def ze(h:n<l.length):AN l=AN (l.take n)+B0 n*(l.getD n 0+BB*AN (l.drop<|n+1)):=by
 rw[Ri l n A4]
 congr 2
 rw[UK h,NS]
 congr 1
 simp[JL,h]
def fg(h:m<=n):B0 m<=B0 n:=by obtain⟨k,rfl⟩:∃k,n=m+k:=⟨n-m,A4⟩;rw[gW];have a:=Lm m;have b:=Lm k;have:B0 m*1<=B0 m*B0 k:=Ew A4 A4;omega
def YS(ha:okW a)(hb:Norm b)(h:a.length<b.length):AN a<AN b:=by have h1:=(Gh ha).2;have h2:=Td hb.1 (by intro e;subst e;simp at h) hb.2;have h3:=fg (show a.length<=b.length-1 by omega);omega
theorem tn(ha:Norm a)(hb:Norm b)(hla:a.length<4398046511104)(hlb:b.length<4398046511104):Yd (λr=>(r= -1/\AN a<AN b)\/(r=0/\AN a=AN b)\/(r=1/\AN b<AN a)) (XV a b):=by
 unfold XV;refine Ad (λhc=>Ad (λhd=>?_)<|λhd=>?_)<|λhc=>?_
 ·have hd:=As hd;exact AU<| .inl ⟨rfl,YS ha.1 hb A4⟩
 ·have hd:=Bg hd;rw[GA,Il] at hc;exact AU<| .inr<| .inr ⟨rfl,YS hb.1 ha A4⟩
 ·rw[WK,Hn] at hc;have hl:a.length=b.length:=A4;refine A6 BC ?_;refine EP (λs:Int=> -1<=s/\s<a.length/\a.drop (s+1).toNat=b.drop (s+1).toNat) (λs:Int=>(s+1).toNat) ?_ _ _ ⟨A4,A4,?_⟩ A4
  ·rintro next s ⟨h0,h1,h2⟩ hn
   refine Ad (λhp=>?_)<|λhp=>?_
   ·have hp:=As hp;obtain⟨n,rfl⟩:=F2 hp;have en:(((n:Nat):Int)+1).toNat=n+1:=A4;rw[en] at h2;refine A6 (Bf A4)<|A6 (Bf A4) ?_
    have eA:=ze (l:=a) (n:=n) A4;have eB:=ze (l:=b) (n:=n) A4;rw[h2] at eA;let⟨tA0,tA⟩:=Gh<|MI ha.1 n
    let⟨tB0,tB⟩:=Gh<|MI hb.1 n
    rw[E1,EV A4] at tA tB;have hpw:=Lm n;have gA:AB a (n:Int)=some (a.getD n 0):=Bf A4;have gB:AB b (n:Int)=some (b.getD n 0):=Bf A4;have dA:a.drop n=a.getD n 0::a.drop (n+1):=by
     rw[UK (show n<a.length by omega)]
     congr 1
     simp[JL,show n<a.length by omega]
    have dB:b.drop n=b.getD n 0::b.drop (n+1):=by
     rw[UK (show n<b.length by omega)]
     congr 1
     simp[JL,show n<b.length by omega]
    generalize a.getD n 0=X at*
    generalize b.getD n 0=Y at*
    have eA':AN a=AN (a.take n)+B0 n*X+B0 n*(BB*AN (b.drop<|n+1)):=AK;have eB':AN b=AN (b.take n)+B0 n*Y+B0 n*(BB*AN (b.drop<|n+1)):=AK;refine Ad (λhx=>?_)<|λhx=>?_
    ·rw[GA,Il] at hx;refine A6 gA<|A6 gB<|Ad (λhlt=>?_)<|λhlt=>?_
     ·have hlt:=As hlt;have:B0 n*(X+1)<=B0 n*Y:=Ew A4 A4;rw[DS,Lr] at this;exact AU<| .inl ⟨rfl,A4⟩
     ·have hlt:=Bg hlt;have:B0 n*(Y+1)<=B0 n*X:=Ew A4 A4;rw[DS,Lr] at this;exact AU<| .inr<| .inr ⟨rfl,A4⟩
    ·rw[WK,Hn] at hx;refine A6 BC<|hn _ ⟨A4,A4,?_⟩ A4
     have:(((n:Nat):Int)-1+1).toNat=n:=A4;rw[this,dA,dB,hx,h2]
   ·have hp:=Bg hp;have:s= -1:=A4;subst this;exact AU (.inr (.inl ⟨rfl,by simpa using congrArg AN h2⟩))
  ·have:((a.length:Int)-1+1).toNat=a.length:=A4;rw[this,SG,hl,SG]
theorem pS{c:Int}(hx:0<=X/\X<BB)(hy:0<=Y/\Y<BB)(hc:c=0\/c=1):∃r d:Int,S8 X Y c=some (r,d)/\0<=r/\r<BB/\(d=0\/d=1)/\X-Y-c=r-BB*d:=by
 have h:S8 X Y c=some ((X-Y-c)%GP,bif decide (X<Y+c) then 1 else 0):=by unfold S8 HB;rw[B5 hx.1,B5 hx.2,B5 hy.1,B5 hy.2];rcases hc with rfl|rfl<;>rfl
 refine⟨_,_,h,Lw _ (by unfold GP;omega),LK _ (by unfold GP;omega),?_,?_⟩
 ·grind
 ·unfold GP BB at*;by_cases h:X<Y+c
  ·grind
  ·grind
def Wa{c:Int}(hx:0<=X/\X<BB)(hy:0<=Y/\Y<BB)(hc:c=0\/c=1):∃r d:Int,Lq X Y c=some (r,d)/\0<=r/\r<BB/\(d=0\/d=1)/\X+Y+c=r+BB*d:=by
 have h:Lq X Y c=some ((X+Y+c)%GP,(X+Y+c)/GP):=by unfold Lq HB;rw[B5 hx.1,B5 hx.2,B5 hy.1,B5 hy.2];rcases hc with rfl|rfl<;>rfl
 refine⟨_,_,h,Lw _ (by unfold GP;omega),LK _ (by unfold GP;omega),?_,?_⟩
 ·unfold GP BB at*;omega
 ·have:=Oi (X+Y+c) GP;unfold GP BB at*;omega
def gq(hx:0<=X/\X<BB)(hy:0<=Y/\Y<BB):∃hi lo:Int,QY X Y=some (hi,lo)/\0<=hi/\hi<=BB-2/\0<=lo/\lo<BB/\X*Y=lo+BB*hi:=by
 have h:QY X Y=some (X*Y/GP,X*Y%GP):=by
  unfold QY HB;rw[B5 hx.1,B5 hx.2,B5 hy.1,B5 hy.2]
  rfl
 have h1:=Oi (X*Y) GP;have h2:0<=X*Y:=LH hx.1 hy.1;have h3:X*Y<=(BB-1)*(BB-1):=Pd A4 A4 hy.1 (by unfold BB;omega);have h4:0<=X*Y%GP:=Lw _ (by unfold GP;omega);have h5:X*Y%GP<GP:=LK _ (by unfold GP;omega);refine⟨_,_,h,?_,?_,h4,h5,?_⟩
 ·exact LI h2 (by unfold GP;omega)
 ·generalize X*Y/GP=q at*
  generalize X*Y%GP=r at*
  generalize X*Y=p at*
  unfold GP BB at*;omega
 ·unfold GP BB at*;omega
theorem ir(h:l.length<=n):l.getD n 0=0:=by grind
def FC(l:A3 Int)(n:Nat):AN (l.take<|n+1)=AN (l.take n)+B0 n*l.getD n 0:=by
 rcases Hk n l.length with h|h
 ·exact Xm h
 ·rw[ir h,Cz A4,Cz h];omega
theorem vQ(ha:okW a)(hb:okW b)(hl:b.length<=a.length)(hla:a.length<4398046511104)(hv:AN b<=AN a):Yd (λw=>Norm w/\AN w=AN a-AN b) (Xs a b):=by
 unfold Xs;refine A6 (Px A4 A4 A4) ?_;refine EP (λs:A3 Int×Int×Int=>okW s.1/\s.1.length=a.length/\(s.2.1=0\/s.2.1=1)/\0<=s.2.2/\s.2.2<=a.length/\AN (s.1.take s.2.2.toNat)=AN (a.take s.2.2.toNat)-AN (b.take s.2.2.toNat)+B0 s.2.2.toNat*s.2.1)
  (λs:A3 Int×Int×Int=>a.length-s.2.2.toNat) ?_ _ _ ⟨VJ _,by simp only[Nl];omega,.inl rfl,BZ,BZ,by simp[AN]⟩ BZ
 rintro next ⟨o,c,i⟩ ⟨h1,h2,h3,h4,h5,h6⟩ hn
 simp only at h1 h2 h3 h4 h5 h6 hn⊢;obtain⟨n,rfl⟩:=F2 h4;simp only[Ce,MV] at*;refine Ad (λhc=>?_)<|λhc=>?_
 ·have hc:=As hc;refine DJ (λv=>v=b.getD n 0) ?_ λk hk=>Ad (λhd=>?_)<|λhd=>?_
  ·rintro v rfl;let⟨r,d,e1,e2,e3,e4,e5⟩:=pS (Fp ha n) (Fp hb n) h3;refine A6 (Bf A4)<|A6 e1<|A6 (Bf A4)<|A6 (Bf A4)<|A6 BC ?_
   refine hn _ ⟨Kb h1 _ ⟨e2,e3⟩,by simpa using h2,e4,BZ,BZ,?_⟩ BZ;have e:(((n:Nat):Int)+1).toNat=n+1:=A4;simp only[e,Ce];rw[FC,HI<|BM _,JE A4,FC a,FC b,Jj]
   generalize a.getD n 0=X at*
   generalize b.getD n 0=Y at*
   have key:B0 n*(X-Y-c)=B0 n*r-BB*B0 n*d:=AK;have k2:B0 n*(X-Y-c)=B0 n*X-B0 n*Y-B0 n*c:=AK;omega
  ·have hd:=As hd;exact A6 (Bf A4)<|hk _ rfl
  ·grind
 ·have hc:=Bg hc;have HT:n=a.length:=A4;subst HT;refine Aq (Ry h1 A4) λw ⟨w1,w2,_⟩=>AU ⟨w1,?_⟩
  rw[w2];rw[Cz (l:=o) A4,Cz (l:=a) A4,Cz (l:=b) A4] at h6;have Ba:=(Gh h1).2;rw[h2] at Ba;have hp:=Lm a.length;rcases h3 with rfl|rfl
  ·omega
  ·omega
def aeh(h:AN (l.drop n)=0)(hk:okW l)(hm:n<=m):l.getD m 0=0:=by
 have key:∀(l:A3 Int) (j:Nat),okW l->AN l=0->l.getD j 0=0:=by
  intro l
  induction l with
  |nil=>intro j _ _;simp
  |cons x l ih=>
   intro j hk hv;rw[PT] at hk;rw[NS] at hv;have h1:=(Gh hk.2).1;have hx:=hk.1;unfold BB at*;cases j with
   |zero=>simp;omega
   |succ j=>simpa using ih j hk.2 A4
 have:=key (l.drop n) (m-n) (Rw hk n) h;simpa[JL,UD,show n+(m-n)=m by omega] using this
theorem afk(ha:okW a)(hb:okW b)(hla:a.length<2199023255552)(hlb:b.length<2199023255552):Yd (λw=>Norm w/\AN w=AN a*AN b) (dK a b):=by
 unfold dK;refine A6 BC<|A6 (Px A4 A4 A4) ?_
 refine EP (λs:A3 Int×Int=>okW s.1/\s.1.length=a.length+b.length/\0<=s.2/\s.2<=a.length/\AN (s.1.take<|s.2.toNat+b.length)=AN (a.take s.2.toNat)*AN b)
  (λs:A3 Int×Int=>a.length-s.2.toNat) ?_ _ _ ⟨VJ _,by simp only[Nl];omega,BZ,BZ,?_⟩ BZ
 rotate_left
 ·dsimp only;rw[Ze,lK];simp[AN]
 rintro next ⟨o,i⟩ ⟨h1,h2,h3,h4,h5⟩ hn
 simp only at h1 h2 h3 h4 h5 hn⊢;obtain⟨n,rfl⟩:=F2 h3;simp only[Ce,MV] at*;refine Ad (λhc=>?_)<|λhc=>?_
 ·have hc:=As hc;refine A6 (Bf A4) ?_;refine EP (λs:A3 Int×Int×Int=>okW s.1/\s.1.length=a.length+b.length/\(0<=s.2.1/\s.2.1<BB)/\0<=s.2.2/\s.2.2<=b.length/\s.1.drop (n+s.2.2.toNat)=o.drop (n+s.2.2.toNat)/\
    AN (s.1.take<|n+s.2.2.toNat)+B0 (n+s.2.2.toNat)*s.2.1=AN (o.take<|n+s.2.2.toNat)+B0 n*(a.getD n 0*AN (b.take s.2.2.toNat)))
   (λs:A3 Int×Int×Int=>b.length-s.2.2.toNat) ?_ _ _ ⟨h1,h2,⟨BZ,by dsimp only;unfold BB;omega⟩,BZ,BZ,rfl,by simp[AN]⟩ BZ
  rintro FE ⟨p,c,j⟩ ⟨g1,g2,g3,g4,g5,g6,g7⟩ IV;simp only at g1 g2 g3 g4 g5 g6 g7 IV⊢;obtain⟨m,rfl⟩:=F2 g4;simp only[Ce,MV] at*;have eo:p.getD (n+m) 0=o.getD (n+m) 0:=by have:=congrArg (λl=>l.getD 0 0) g6;simpa[JL,UD] using this
  refine Ad (λhd=>?_)<|λhd=>?_
  ·have hd:=As hd;let⟨hi,lo,m1,m2,m3,m4,m5,m6⟩:=gq (Fp ha n)<|Fp hb m
   let⟨r1,d1,a1,a2,a3,a4,a5⟩:=Wa (X:=lo) (Y:=p.getD (n+m) 0) (c:=0) ⟨m4,m5⟩ (Fp g1 _)<| .inl rfl
   let⟨r2,d2,b1,b2,b3,b4,b5⟩:=Wa (X:=r1) (Y:=c) (c:=0) ⟨a2,a3⟩ g3<| .inl rfl
   have enm:((n:Nat):Int)+((m:Nat):Int)=((n+m:Nat):Int):=A4;rw[enm];refine A6 (Bf A4)<|A6 m1<|A6 BC<|A6 (Bf A4)<|A6 (Bf A4)<|A6 a1<|A6 b1<|A6 BC<|A6 (Bf A4)<|A6 (Bf A4)<|A6 BC ?_
   let⟨xa,xb⟩:=Fp ha n;let⟨ya,yb⟩:=Fp hb m;let⟨oa,ob⟩:=Fp g1<|n+m
   have NG:a.getD n 0*b.getD m 0<=(BB-1)*(BB-1):=Pd A4 A4 ya (by unfold BB;omega);have hD:BB*(hi+d1+d2)=a.getD n 0*b.getD m 0+p.getD (n+m) 0+c-r2:=AK;have hlt:hi+d1+d2<BB:=AK;have hw:wr .u64 (wr .u64 (hi+d1)+d2)=hi+d1+d2:=by have e1:wr .u64 (hi+d1)=hi+d1:=wrap_u64 ⟨A4,by unfold BB at*;omega⟩;rw[e1];exact wrap_u64 ⟨A4,by unfold BB at*;omega⟩
   dsimp only;rw[hw];refine IV _ ⟨Kb g1 _ ⟨b2,b3⟩,by simpa using g2,⟨BZ,hlt⟩,BZ,BZ,?_,?_⟩ BZ
   ·have e:(((m:Nat):Int)+1).toNat=m+1:=A4;simp only[e,Ce];rw[iS A4,<-LG];have:=congrArg (List.drop 1) g6;rwa [FZ,FZ] at this
   ·have e:(((m:Nat):Int)+1).toNat=m+1:=A4;simp only[e,Ce];rw[<-LG,FC,HI<|BM _,JE A4,FC o,FC b,<-eo,Jj];have k1:B0 n*(a.getD n 0*(AN (b.take m)+B0 m*b.getD m 0))=B0 n*(a.getD n 0*AN (b.take m))+B0 (n+m)*(a.getD n 0*b.getD m 0):=by rw[DS,DS,gW,GM (a.getD n 0)<|B0 m,FO]
    have k2:B0 (n+m)*r2+BB*B0 (n+m)*(hi+d1+d2)=B0 (n+m)*(a.getD n 0*b.getD m 0)+B0 (n+m)*p.getD (n+m) 0+B0 (n+m)*c:=AK;rw[k1];omega
  ·have hd:=Bg hd;have KV:m=b.length:=A4;subst KV;have enm:((n:Nat):Int)+((b.length:Nat):Int)=((n+b.length:Nat):Int):=A4;rw[enm];refine A6 BC<|A6 (Bf A4)<|A6 (Bf A4)<|A6 BC ?_
   refine hn _ ⟨Kb g1 _ g3,by simpa using g2,BZ,BZ,?_⟩ BZ;have e:(((n:Nat):Int)+1).toNat=n+1:=A4;simp only[e,Ce];rw[show n+1+b.length=(n+b.length)+1 from by omega,FC,HI<|BM _,JE A4,FC a,ID];rw[Cz (l:=b) A4,h5] at g7;rw[g7,FO]
 ·have hc:=Bg hc;have HT:n=a.length:=A4;subst HT;refine Aq (Ry h1 A4) λw ⟨w1,w2,_⟩=>AU ⟨w1,?_⟩
  rw[w2];rw[Cz (l:=o) A4,Cz (l:=a) A4] at h5;exact h5
def wrW(n:Int):IntKind.wrap .u64 n=n%BB:=by
 unfold IntKind.wrap
 rfl
def J2{n:Int}(h:0<=n/\n<BB):IntKind.wrap .u64 n=n:=by rw[wrW,UC h.1 h.2]
theorem aaj(hx:0<=x)(hy:0<=y)(hs:y<2^s)(hd:x%2^s=0)(hw:x+y<BB):Ga .or .u64 x y=x+y:=by
 obtain⟨a,rfl⟩:=F2 hx;obtain⟨b,rfl⟩:=F2 hy;have DN:b<2^s:=AK;have hd':a%2^s=0:=AK;have ho:a|||b=a+b:=by
  have e:a=2^s*(a/2^s):=by have:=Nat.div_add_mod a (2^s);omega
  rw[e,<-Nat.two_pow_add_eq_or_of_lt DN]
 have hb:a+b<2^64:=AK;unfold Ga;show IntKind.wrap .u64 ((BitVec.ofInt 64 a|||BitVec.ofInt 64 b).toNat:Int)=_;have e1:BitVec.ofInt 64 (a:Int)=BitVec.ofNat 64 a:=iW ..;have e2:BitVec.ofInt 64 (b:Int)=BitVec.ofNat 64 b:=iW ..;rw[e1,e2,BitVec.toNat_or,iQ,iQ,SH A4,SH A4,ho];exact J2 ⟨A4,A4⟩
theorem zT(hx:0<=x/\x<BB):Ga .and .u64 x 4294967295=x%4294967296:=by obtain⟨a,rfl⟩:=F2 hx.1;have hb:a<2^64:=AK;unfold Ga;show IntKind.wrap .u64 ((BitVec.ofInt 64 a&&&BitVec.ofInt 64 ((4294967295:Nat):Int)).toNat:Int)=_;have e1:BitVec.ofInt 64 (a:Int)=BitVec.ofNat 64 a:=iW ..;have e2:BitVec.ofInt 64 ((4294967295:Nat):Int)=BitVec.ofNat 64 4294967295:=iW ..;rw[e1,e2,BitVec.toNat_and,iQ,iQ,SH hb,SH A4,show 4294967295=2^32-1 from rfl,Nat.and_two_pow_sub_one_eq_mod];have:a%2^32<2^32:=OS _ A4;rw[J2 ⟨A4,by unfold BB;omega⟩];omega
def jx(hs:s<=64):Md .u64 x (s:Int)=some (x/2^s):=by
 rw[ao3 A4]
 congr 1
 rw[Ce,EV<|show s<=IntKind.bits .u64 from hs];exact Int.fdiv_eq_ediv_of_nonneg _<|EU<|Int.pow_pos A4
def jy(hs:s<=64):Me .u64 x (s:Int)=some (x*2^s%BB):=by
 rw[ao4 A4]
 congr 1
 rw[Ce,EV<|show s<=IntKind.bits .u64 from hs,wrW]
def db(h:s<=64):(2:Int)^s*2^(64-s)=BB:=by rw[<-Int.pow_add,show s+(64-s)=64 from by omega];rfl
def two_pos(s:Nat):(0:Int)<2^s:=Int.pow_pos A4
def vn(hs:s<=64)(hx:0<=x/\x<BB):∃lo hi:Int,Me .u64 x (s:Int)=some lo/\Md .u64 x ((64:Int)-(s:Int))=some hi/\0<=lo/\lo<BB/\0<=hi/\hi<2^s/\lo%2^s=0/\x*2^s=lo+BB*hi:=by
 have e64:((64:Int)-(s:Int))=((64-s:Nat):Int):=A4;have h2:=db hs;have p1:=two_pos s;have p2:=two_pos<|64-s
 have abP:x*2^s=(x%2^(64-s))*2^s+BB*(x/2^(64-s)):=by
  conv=>lhs;rw[<-Oi x (2^(64-s))]
  rw[ID,<-h2,Int.mul_right_comm,FD (2^(64-s))<|2^s]
 have r0:=Lw x (show(2:Int)^(64-s)≠0 by omega);have r1:=LK x p2;have hlt:(x%2^(64-s))*2^s<BB:=by rw[<-h2,FD];exact Int.mul_lt_mul_of_pos_left r1 p1
 have Ld:0<=(x%2^(64-s))*2^s:=LH r0<|EU p1
 refine⟨(x%2^(64-s))*2^s,x/2^(64-s),?_,?_,Ld,hlt,LI hx.1<|EU p2,?_,Int.mul_emod_left _ _,abP⟩
 ·rw[jy hs,abP,Int.add_mul_emod_self_left,UC Ld hlt]
 ·rw[e64,jx A4]
 ·refine Zg p2 ?_;rw[h2];exact hx.2
structure HS(y1 y0 N d q r:Int):Prop where
 q0:0<=q
 q1:q<=4294967297
 e:q*y1+r=N
 r0:0<=r
 r1:r<4294967296
 up:N*4294967296+d<(q+1)*(y1*4294967296+y0)
structure HQ(y1 y0 N d q:Int):Prop where
 q0:0<=q
 q1:q<4294967296
 lo:q*(y1*4294967296+y0)<=N*4294967296+d
 up:N*4294967296+d<(q+1)*(y1*4294967296+y0)
structure HP(y1 y0 N d:Int):Prop where
 a0:2147483648<=y1
 a1:y1<4294967296
 b0:0<=y0
 b1:y0<4294967296
 n0:0<=N
 n1:N<y1*4294967296+y0
 d0:0<=d
 d1:d<4294967296
def aaN(p:HP y1 y0 N d):HS y1 y0 N d (N/y1) (N-N/y1*y1):=by
 let⟨a0,a1,b0,b1,n0,n1,d0,d1⟩:=p;have h1:=Oi N y1;have h2:=Lw N (show y1≠0 by omega);have h3:=LK N (show 0<y1 by omega);have h4:0<=N/y1:=LI n0 A4
 generalize N/y1=q at*
 generalize N%y1=r at*
 rw[FD y1 q] at h1;refine⟨h4,?_,A4,A4,A4,?_⟩
 ·have:q<=4294967297\/4294967298<=q:=A4;rcases this with h|h
  ·exact h
  ·have:4294967298*y1<=q*y1:=N5 h A4;omega
 ·have hq:0<=q*y0:=LH h4 b0;rw[ID,DS,<-FO];omega
def aby{r:Int}(p:HP y1 y0 N d)(h:HS y1 y0 N d q r)(hc: ¬4294967296<=q)(hd: ¬4294967296*r+d<q*y0):HQ y1 y0 N d q:=by let⟨a0,a1,b0,b1,n0,n1,d0,d1⟩:=p;let⟨q0,q1,e,r0,r1,up⟩:=h;refine⟨q0,A4,?_,up⟩;rw[DS,<-FO];omega
theorem jb{r:Int}(p:HP y1 y0 N d)(h:HS y1 y0 N d q r)(hc:4294967296<=q\/4294967296*r+d<q*y0):1<=q/\N*4294967296+d<(q-1+1)*(y1*4294967296+y0):=by
 let⟨a0,a1,b0,b1,n0,n1,d0,d1⟩:=p;let⟨q0,q1,e,r0,r1,up⟩:=h;have e1:q-1+1=q:=A4;rw[e1,DS,<-FO];rcases hc with hc|hc
 ·refine⟨A4,?_⟩;have h1:4294967296*y1<=q*y1:=N5 hc A4;have h2:4294967296*y0<=q*y0:=N5 hc A4;omega
 ·grind
theorem z7{r:Int}(p:HP y1 y0 N d)(h:HS y1 y0 N d q r)(hc:4294967296<=q\/4294967296*r+d<q*y0)(hb:4294967296<=r+y1):HQ y1 y0 N d (q-1):=by
 let⟨u1,u2⟩:=jb p h hc;let⟨a0,a1,b0,b1,n0,n1,d0,d1⟩:=p;let⟨q0,q1,e,r0,r1,up⟩:=h;have hy:(q-1)*y0<=4294967296*y0:=N5 A4 b0;have e2:(q-1)*y1=q*y1-y1:=AK;have lo:(q-1)*(y1*4294967296+y0)<=N*4294967296+d:=AK;refine⟨A4,?_,lo,u2⟩;have:q-1<4294967296\/4294967296<=q-1:=A4;rcases this with h|h
 ·exact h
 ·grind
theorem aaM{r:Int}(p:HP y1 y0 N d)(h:HS y1 y0 N d q r)(hc:4294967296<=q\/4294967296*r+d<q*y0)(hb:r+y1<4294967296):HS y1 y0 N d (q-1) (r+y1):=by let⟨u1,u2⟩:=jb p h hc;let⟨a0,a1,b0,b1,n0,n1,d0,d1⟩:=p;let⟨q0,q1,e,r0,r1,up⟩:=h;have e2:(q-1)*y1=q*y1-y1:=AK;exact⟨A4,A4,A4,A4,A4,u2⟩
theorem aaS{r:Int}(p:HP y1 y0 N d)(h:HS y1 y0 N d q r):((decide<|4294967296<=q)||(decide<|(IntKind.wrap .u64<|(IntKind.wrap .u64<|4294967296*r)+d)<(IntKind.wrap .u64<|q*y0)))=decide (4294967296<=q\/4294967296*r+d<q*y0):=by
 let⟨a0,a1,b0,b1,n0,n1,d0,d1⟩:=p;let⟨q0,q1,e,r0,r1,up⟩:=h;rw[J2 (n:=4294967296*r) ⟨A4,by unfold BB;omega⟩,J2 (n:=4294967296*r+d) ⟨A4,by unfold BB;omega⟩];by_cases hq:4294967296<=q
 ·grind
 ·have h1:0<=q*y0:=LH q0 b0;have h2:q*y0<=4294967295*4294967295:=Pd A4 A4 b0 A4;rw[J2 (n:=q*y0) ⟨h1,by unfold BB;omega⟩,Bu hq,W8]
  congr 1
  simp[hq]
def aaT(p:HP y1 y0 N d)(h:HQ y1 y0 N d q)(hy:y=y1*4294967296+y0):IntKind.wrap .u64 (IntKind.wrap .u64 (IntKind.wrap .u64 (N*4294967296)+d)-IntKind.wrap .u64 (q*y))=N*4294967296+d-q*y:=by
 let⟨a0,a1,b0,b1,n0,n1,d0,d1⟩:=p;let⟨q0,q1,lo,up⟩:=h;subst hy;simp only[wrW];rw[ID,JI] at up
 generalize q*(y1*4294967296+y0)=Z at*
 unfold BB;omega
def Ye(h:n≠0):2^Nat.log2 n<=n/\n<2^(Nat.log2 n+1):=⟨Nat.log2_self_le h,Nat.lt_log2_self⟩
theorem abB(h0:0<y)(h1:y<BB):∃s:Nat,Wd y=some (s:Int)/\s<=63/\BB<=2*(y*2^s)/\y*2^s<BB:=by
 obtain⟨n,rfl⟩:=F2<|EU h0
 have hn:n≠0:=A4;let⟨l1,l2⟩:=Ye hn;have hl:Nat.log2 n<=63:=by
  have:Nat.log2 n<64:=by rw[Qa hn];have:n<18446744073709551616:=AK;exact this
  omega
 refine⟨63-Nat.log2 n,?_,A4,?_,?_⟩
 ·unfold Wd HB;rw[B5 (show(0:Int)<=(n:Int) by omega),B5<|show((n:Nat):Int)<18446744073709551616 from h1];show some (64-((Nt ((n:Nat):Int).toNat:Nat):Int))=_;have:Nt n=Nat.log2 n+1:=by
   unfold Nt;have:Nat.beq n 0=false:=by
    cases hb:Nat.beq n 0 with
    |false=>rfl
    |true=>exact absurd (EA hb) hn
   rw[this];rfl
  rw[Ce,this]
  congr 1;omega
 ·have e:2^(63-Nat.log2 n)*2^Nat.log2 n=2^63:=by rw[<-Mu];congr 1;omega
  have:2^63<=2^(63-Nat.log2 n)*n:=by rw[<-e];exact Zc _ l1
  have h2:(2:Int)^63<=2^(63-Nat.log2 n)*(n:Int):=AK;rw[FD] at h2;unfold BB;omega
 ·have e:2^(63-Nat.log2 n)*2^(Nat.log2 n+1)=2^64:=by rw[<-Mu];congr 1;omega
  have:2^(63-Nat.log2 n)*n<2^64:=by rw[<-e];exact Nat.mul_lt_mul_of_pos_left l2<|Nat.two_pow_pos _
  have h2:2^(63-Nat.log2 n)*(n:Int)<(2:Int)^64:=AK;rw[FD] at h2;unfold BB;omega
def pA(hx:0<=x/\x<BB)(hy:0<y):Ur .u64 x y=some (x/y):=by unfold Ur;rw[Bu (show¬y=0 by omega)];show some (IntKind.wrap .u64<|x.tdiv y)=_;rw[Int.tdiv_eq_ediv_of_nonneg hx.1,J2 ⟨LI hx.1<|EU hy,Int.lt_of_le_of_lt (SF _ hx.1) hx.2⟩]
theorem QW(hx:0<=x)(hy:0<y):Fu x y=some (x%y):=by grind [Fu]
def abj:Md .u64 x 32=some (x/4294967296):=jx (s:=32) A4
theorem y4{hi lo:Int}(Kx:0<=hi/\hi<y)(Fl:0<=lo/\lo<BB)(hy:y<BB):Yd (λp=>(0<=p.1/\p.1<BB)/\(0<=p.2/\p.2<y)/\hi*BB+lo=p.1*y+p.2) (XY hi lo y):=by
 unfold XY;dsimp only[wr];refine Ad (λhc=>absurd (As hc) A4)<|λ_=>Ad (λhc=>absurd (As hc) A4)<|λ_=>Ad (λh0=>?_)<|λh0=>?_
 ·have h0:=As h0;subst h0;refine A6 (pA Fl Kx.2)<|A6 (QW Fl.1 Kx.2)<|AU ⟨⟨LI Fl.1 A4,Int.lt_of_le_of_lt (SF _ Fl.1) Fl.2⟩,⟨Lw _ A4,LK _ Kx.2⟩,?_⟩
  have:=Oi lo y;rw[FD] at this;dsimp only;omega
 ·have h0:=Bg h0;let⟨s,l1,l2,l3,l4⟩:=abB (y:=y) A4 hy;have ws:IntKind.wrap .u64 (s:Int)=s:=J2 ⟨A4,by unfold BB;omega⟩;have arf:IntKind.wrap .u64 ((64:Int)-s)=64-s:=J2 ⟨A4,by unfold BB;omega⟩;have ps:=two_pos s;have hgt:hi*2^s+2^s<=y*2^s:=by
   have:(hi+1)*2^s<=y*2^s:=N5 A4<|EU ps
   rw[ID,JI] at this;exact this
  have hn:0<=hi*2^s:=LH Kx.1<|EU ps
  let⟨u0,u1,e1,e2,a1,a2,a3,a4,a5,a6⟩:=vn (x:=lo) (s:=s) A4 Fl;have eY:Me .u64 y (s:Int)=some (y*2^s):=by rw[jy A4,UC A4 l4]
  have eH:Me .u64 hi (s:Int)=some (hi*2^s):=by rw[jy A4,UC hn A4]
  have eO:Ga .or .u64 (hi*2^s) u1=hi*2^s+u1:=aaj (s:=s) hn a3 a4 (Int.mul_emod_left _ _) A4;refine A6 l1 ?_;rw[ws,arf];refine A6 eY<|A6 abj<|A6 eH<|A6 e2<|A6 e1<|A6 abj ?_
  rw[eO,zT (x:=u0) ⟨a1,a2⟩,zT (x:=y*2^s) ⟨A4,l4⟩];have XD:hi*BB*2^s+lo*2^s=(hi*2^s+u1)*BB+u0:=AK
  generalize hYd:y*2^s=Y at*
  generalize hNd:hi*2^s+u1=N at*
  have y1b:2147483648<=Y/4294967296:=AK;have y1c:Y/4294967296<4294967296:=AK;have yy:Y=Y/4294967296*4294967296+Y%4294967296:=A4;have hP1:HP (Y/4294967296) (Y%4294967296) N (u0/4294967296):=⟨y1b,y1c,A4,A4,A4,A4,A4,by unfold BB at*;omega⟩;have hu:u0=u0/4294967296*4294967296+u0%4294967296:=A4;have u00:0<=u0%4294967296:=A4;have u01:u0%4294967296<4294967296:=A4;have hYB:Y<BB:=l4
  generalize Y/4294967296=y1 at*
  generalize Y%4294967296=y0 at*
  generalize u0/4294967296=d1 at*
  generalize u0%4294967296=d0 at*
  have hN:0<=N/\N<BB:=⟨hP1.n0,A4⟩;refine A6 (pA hN A4) ?_;refine DJ (HQ y1 y0 N d1) ?_ ?_
  ·intro q1 hq1;rw[aaT hP1 hq1 yy];have g1:=hq1.lo;have g2:=hq1.up;rw[<-yy] at g1 g2;rw[ID,JI] at g2;have hP2:HP y1 y0 (N*4294967296+d1-q1*Y) d0:=⟨y1b,y1c,hP1.b0,hP1.b1,A4,A4,u00,u01⟩
   generalize hM:N*4294967296+d1-q1*Y=M at*
   refine A6 (pA ⟨hP2.n0,A4⟩ A4) ?_;refine DJ (HQ y1 y0 M d0) ?_ ?_
   ·intro q0 hq0;rw[aaT hP2 hq0 yy];have f1:=hq0.lo;have f2:=hq0.up;rw[<-yy] at f1 f2;rw[ID,JI] at f2;have NH:hi*BB*2^s+lo*2^s=(q1*4294967296+q0)*Y+(M*4294967296+d0-q0*Y):=AK
    generalize hR:M*4294967296+d0-q0*Y=R at*
    have hR0:0<=R:=A4;have hR1:R<Y:=A4;refine A6 (jx A4)<|AU ?_
    have q1a:=hq1.q0;have q1b:=hq1.q1;have q0a:=hq0.q0;have q0b:=hq0.q1;have eq:IntKind.wrap .u64 (IntKind.wrap .u64 (q1*4294967296)+q0)=q1*4294967296+q0:=by rw[J2 (n:=q1*4294967296) ⟨A4,by unfold BB;omega⟩,J2 ⟨A4,by unfold BB;omega⟩]
    dsimp only;rw[eq];have hdiv:R=2^s*(hi*BB+lo-(q1*4294967296+q0)*y):=AK;have hdd:R/2^s=hi*BB+lo-(q1*4294967296+q0)*y:=by rw[hdiv,Int.mul_ediv_cancel_left _ A4]
    refine⟨⟨A4,by unfold BB;omega⟩,⟨LI hR0 A4,Zg ps (by rw[hYd];exact hR1)⟩,?_⟩;rw[hdd];omega
   ·intro k hk;have hi0:=aaN hP2;have w1:0<=M/y1:=LI hP2.n0 A4;have e1:IntKind.wrap .u64 (M-IntKind.wrap .u64 (M/y1*y1))=M-M/y1*y1:=by have:=hi0.e;have:=hi0.r0;have:=hi0.r1;have h1:0<=M/y1*y1:=LH w1 A4;rw[J2 (n:=M/y1*y1) ⟨h1,by have:=hP2.n1;omega⟩,J2 ⟨A4,by unfold BB;omega⟩]
    rw[e1];refine EP (λs:Int×Int=>HS y1 y0 M d0 s.2 s.1) (λs:Int×Int=>s.2.toNat) ?_ _ _ hi0 (by have:=hi0.q0;have:=hi0.q1;dsimp only;omega);rintro next ⟨r,q⟩ h rP
    dsimp only at h⊢;rw[aaS hP2 h];have wr1:IntKind.wrap .u64 (r+y1)=r+y1:=J2 ⟨by have:=h.r0;omega,by have:=h.r1;unfold BB;omega⟩;refine Ad (λhc=>?_)<|λhc=>?_
    ·have hc:=As hc;have hup:=(jb hP2 h hc).1;have wq:IntKind.wrap .u64 (q-1)=q-1:=J2 ⟨A4,by have:=h.q1;unfold BB;omega⟩;simp only[wr1,wq];refine Ad (λhd=>?_)<|λhd=>?_
     ·exact hk _<|z7 hP2 h hc<|As hd
     ·exact rP _ (aaM hP2 h hc (by have:=Bg hd;omega)) BZ
    ·have hc:=Bg hc;exact hk _<|aby hP2 h (λa=>hc<| .inl a)<|λa=>hc<| .inr a
  ·intro k hk;have hi0:=aaN hP1;have w1:0<=N/y1:=LI hP1.n0 A4;have e1:IntKind.wrap .u64 (N-IntKind.wrap .u64 (N/y1*y1))=N-N/y1*y1:=by have:=hi0.e;have:=hi0.r0;have:=hi0.r1;have h1:0<=N/y1*y1:=LH w1 A4;rw[J2 (n:=N/y1*y1) ⟨h1,A4⟩,J2 ⟨A4,by unfold BB;omega⟩]
   rw[e1];refine EP (λs:Int×Int=>HS y1 y0 N d1 s.1 s.2) (λs:Int×Int=>s.1.toNat) ?_ _ _ hi0 (by have:=hi0.q0;have:=hi0.q1;dsimp only;omega);rintro next ⟨q,r⟩ h rP
   dsimp only at h⊢;rw[aaS hP1 h];have wr1:IntKind.wrap .u64 (r+y1)=r+y1:=J2 ⟨by have:=h.r0;omega,by have:=h.r1;unfold BB;omega⟩;refine Ad (λhc=>?_)<|λhc=>?_
   ·have hc:=As hc;have hup:=(jb hP1 h hc).1;have wq:IntKind.wrap .u64 (q-1)=q-1:=J2 ⟨A4,by have:=h.q1;unfold BB;omega⟩;simp only[wr1,wq];refine Ad (λhd=>?_)<|λhd=>?_
    ·exact hk _<|z7 hP1 h hc<|As hd
    ·exact rP _ (aaM hP1 h hc (by have:=Bg hd;omega)) BZ
   ·have hc:=Bg hc;exact hk _<|aby hP1 h (λa=>hc<| .inl a)<|λa=>hc<| .inr a
theorem akq:(List.replicate n (0:Int)).getD m 0=0:=by grind
def yp{lo:Int}(hs:s<=64)(h:lo%2^s=0)(hl:lo<BB):lo+2^s<=BB:=by
 have e:=Oi lo<|2^s
 rw[h] at e;have h2:=db hs;have p:=two_pos s
 generalize lo/2^s=k at*
 have hk:k<2^(64-s):=by
  rcases(show k<2^(64-s)\/2^(64-s)<=k by omega) with h'|h'
  ·exact h'
  ·have:=Ew h' (EU p);omega
 have:=Ew (show k+1<=2^(64-s) from hk)<|EU p
 rw[DS,Lr] at this;omega
def zS(hx:0<=x)(hy:0<=y)(hs:y<2^s)(hd:x%2^s=0)(hw:x+y<BB):Ga .or .u64 y x=x+y:=by rw[<-aaj hx hy hs hd hw];unfold Ga;dsimp only;rw[BitVec.or_comm]
theorem vt(ha:okW a)(hs:s<=63)(hl:a.length<2199023255552):Yd (λw=>okW w/\w.length=a.length+1/\AN w=AN a*2^s) (Y4 a (s:Int)):=by
 unfold Y4;refine A6 BC<|A6 (Px A4 A4 A4) ?_
 have ps:=two_pos s;refine EP (λt:A3 Int×Int=>okW t.1/\t.1.length=a.length+1/\0<=t.2/\t.2<=a.length/\t.1.getD t.2.toNat 0<2^s/\(∀m,t.2.toNat<m->t.1.getD m 0=0)/\AN (t.1.take<|t.2.toNat+1)=AN (a.take t.2.toNat)*2^s)
  (λt:A3 Int×Int=>a.length-t.2.toNat) ?_ _ _ ⟨VJ _,by simp only[Nl];omega,BZ,BZ,?_,?_,?_⟩ BZ
 rotate_left
 ·grind
 ·grind
 ·dsimp only;rw[Ze,lK];simp[AN]
 rintro next ⟨o,i⟩ ⟨h1,h2,h3,h4,h5,h6,h7⟩ hn
 simp only at h1 h2 h3 h4 h5 h6 h7 hn⊢;obtain⟨n,rfl⟩:=F2 h3;simp only[Ce,MV] at*;refine Ad (λhc=>?_)<|λhc=>?_
 ·have hc:=As hc;refine DJ (λp:A3 Int=>okW p/\p.length=a.length+1/\p.getD (n+1) 0<2^s/\(∀m,n+1<m->p.getD m 0=0)/\AN (p.take<|n+2)=AN (a.take<|n+1)*2^s) ?_ ?_
  ·rintro p ⟨g1,g2,g3,g4,g5⟩;refine A6 BC<|hn _ ⟨g1,g2,BZ,BZ,?_⟩ BZ
   have e:(((n:Nat):Int)+1).toNat=n+1:=A4;simp only[e];exact⟨g3,g4,g5⟩
  ·intro k hk;let⟨lo,hi,b1,b2,b3,b4,b5,b6,b7,b8⟩:=vn (x:=a.getD n 0) (s:=s) A4<|Fp ha n
   have ach:=yp A4 b7 b4;have ho:=Fp h1 n;have eor:Ga .or .u64 (o.getD n 0) lo=lo+o.getD n 0:=zS b3 ho.1 h5 b7 A4;refine A6 (Bf A4)<|A6 (Bf A4)<|A6 (Bf A4)<|A6 b1<|A6 (Bf A4)<|A6 (Bf A4) ?_
   rw[eor];have Kx:hi<BB:=AK;have rT:AN (o.take n)+B0 n*o.getD n 0=AN (a.take n)*2^s:=by rw[<-h7,FC]
   have Km:AN (o.take n)+B0 n*(lo+o.getD n 0)+B0 (n+1)*hi=AN (a.take<|n+1)*2^s:=by rw[FC a,ID,<-rT,FO,b8,DS,DS,Jj,GM<|B0 n,FO BB];omega
   refine Ad (λhd=>?_)<|λhd=>?_
   ·have hd:=As hd;have e1:((n:Nat):Int)+1=((n+1:Nat):Int):=A4;rw[e1];refine A6 BC<|A6 BC<|A6 b2 ?_
    refine A6 (Bf (by rw[LJ];omega)) (A6 (Bf (by rw[LJ];omega)) ?_);simp only[Ce];refine hk _ ⟨Kb (Kb h1 _ ⟨A4,A4⟩) _ ⟨b5,Kx⟩,by simpa using h2,?_,?_,?_⟩
    ·grind
    ·intro m hm;rw[getD_set_ne A4,getD_set_ne A4];exact h6 m A4
    ·rw[FC,HI<|BM _,JE (by rw[LJ];omega),FC,HI<|BM _,JE A4];exact Km
   ·have hd:=Bg hd;have hs0:s=0:=A4;subst hs0;have atH:hi=0:=AK;subst atH;refine hk _ ⟨Kb h1 _ ⟨A4,A4⟩,by simpa using h2,?_,?_,?_⟩
    ·grind
    ·intro m hm;rw[getD_set_ne A4];exact h6 m A4
    ·have e2:(o.set n<|lo+o.getD n 0).getD (n+1) 0=0:=by rw[getD_set_ne A4,h6 _ A4]
     rw[FC,e2,FC,HI<|BM _,JE A4];exact Km
 ·have hc:=Bg hc;have HT:n=a.length:=A4;subst HT;refine AU ⟨h1,h2,?_⟩;rw[Cz (l:=o) A4,Cz (l:=a) A4] at h7;exact h7
def jW{m:Int}(hP:0<P)(hU:UL<P)(hV:0<=VL)(hm:0<=m)(h:X+1<=m*Y):UL+P*X<m*(VL+P*Y):=by
 have h1:=Ew h<|EU hP
 rw[DS,Lr] at h1;have h2:0<=m*VL:=LH hm hV;rw[DS,GM m P Y];omega
theorem an4{r:Int}(e:q*v1+r=U2)(h:BB*r+u0<q*v0):(u0+BB*U2)+1<=q*(v0+BB*v1):=by grind
def an5{r:Int}(e:q*v1+r=U2)(hr:r<v1)(hu:u0<BB)(hq:0<=q)(hv:0<=v0):(u0+BB*U2)+1<=(q+1)*(v0+BB*v1):=by rw[DS,GM _ BB v1,<-e,ID q 1 v1,JI];have:0<=(q+1)*v0:=LH A4 hv;unfold BB at*;omega
def an6{R:Int}(e:q*v1+R=U2)(hq:0<=q/\q<BB)(hR:0<=R)(I3:0<=v0/\v0<BB)(hu0:0<=u0)(hv1:BB<=2*v1)(h:BB<=R\/q*v0<=BB*R+u0)
 (hP:0<P)(hU:0<=UL)(hV:VL<P)(hV0:0<=VL):(q-1)*(VL+P*(v0+BB*v1))<=UL+P*(u0+BB*U2):=by
 have hY:q*(v0+BB*v1)<=u0+BB*U2:=by
  rw[DS,GM q BB v1,<-e,DS];have:q*v0<=BB*R+u0:=by
   rcases h with h|h
   ·have:q*v0<=(BB-1)*(BB-1):=Pd A4 A4 I3.1 (by unfold BB;omega);unfold BB at*;omega
   ·exact h
  omega
 have h1:=Ew hY<|EU hP
 have h2:q*VL<=BB*P:=Pd A4 A4 hV0 (by unfold BB;omega);have h3:P*BB<=P*(v0+BB*v1):=Ew (by unfold BB at*;omega)<|EU hP
 rw[ZH,JI,DS q,GM q P];rw[FD P BB] at h3;omega
theorem aog{u1 u2:Int}(hP:0<P)(hU:0<=UL)(hu0:0<=u0)(hu1:0<=u1)(hV:VL<P)(I3:v0<BB)(h:UL+P*(u0+BB*(u1+BB*u2))<BB*(VL+P*(v0+BB*v1))):u2<=v1:=by
 rcases(show v1<u2\/u2<=v1 by omega) with h'|h'
 ·exfalso;have h1:BB*(v0+BB*v1+1)<=u0+BB*(u1+BB*u2):=AK;have h2:=Ew h1<|EU hP
  rw[GM P BB,DS P _ 1,Lr] at h2;rw[DS BB VL] at h;rw[DS BB _ P] at h2;have h3:BB*VL<=BB*P:=Ew A4 (by unfold BB;omega);omega
 ·exact h'
theorem ai6(h:l.length=k+3):AN l=AN (l.take k)+B0 k*(l.getD k 0+BB*(l.getD (k+1) 0+BB*l.getD (k+2) 0)):=by have h1:AN (l.take<|k+3)=AN l:=AK;rw[<-h1,FC,FC,FC,Jj<|k+1,Jj,DS,DS,DS,GM (B0 k) BB,GM (B0 k) BB,GM (B0 k) BB,FO,FO,FO];omega
theorem ai8(h:l.length=k+2):AN l=AN (l.take k)+B0 k*(l.getD k 0+BB*l.getD (k+1) 0):=by have h1:AN (l.take<|k+2)=AN l:=AK;rw[<-h1,FC,FC,Jj,DS,GM (B0 k) BB,FO];omega
def toNat_succ'(n:Nat):(((n:Nat):Int)+1).toNat=n+1:=by omega
theorem akX{u v:A3 Int}(hu:okW u)(hv:okW v)(hul:u.length=k+3)(Lc:v.length=k+2)(hk:k<2199023255552)(XC:BB<=2*v.getD (k+1) 0)(hlt:AN u<BB*AN v):Yd (λr=>okW r.1/\r.1.length=k+3/\(0<=r.2/\r.2<BB)/\AN u=r.2*AN v+AN r.1/\AN r.1<AN v) (fD u v):=by
 unfold fD;have eU:=ai6 hul;have eV:=ai8 Lc;let⟨bU0,bU1⟩:=Gh<|MI hu k
 let⟨bV0,bV1⟩:=Gh<|MI hv k
 rw[E1,EV A4] at bU1 bV1;have hP:=Lm k;have hu0:=Fp hu k;have hu1:=Fp hu<|k+1
 have hu2:=Fp hu<|k+2
 have I3:=Fp hv k;have hv1:=Fp hv<|k+1
 have hVP:0<=AN v:=(Gh hv).1;have hU0:0<=AN u:=(Gh hu).1;have e1:((v.length:Int)-1)=((k+1:Nat):Int):=A4;have e2:((v.length:Int)-2)=((k:Nat):Int):=A4;have e0:(v.length:Int)=((k+2:Nat):Int):=A4;rw[e1,e2,e0];have gA:∀{l:A3 Int},l.length=k+3->AB l ((k+2:Nat):Int)=some (l.getD (k+2) 0):=λh=>Bf A4
 refine A6 (gA hul)<|A6 (gA hul)<|A6 BC<|A6 (Bf A4) ?_
 have hV:AN v<B0 (k+2):=by have:=(Gh hv).2;rw[Lc] at this;exact this
 refine DJ (λs:Int×Int×Int=>(0<=s.1/\s.1<BB)/\(0<=s.2.1/\s.2.1<BB)/\(s.2.2=0\/s.2.2=1)/\s.1*v.getD (k+1) 0+(s.2.1+BB*s.2.2)=u.getD (k+1) 0+BB*u.getD (k+2) 0/\AN u<(s.1+1)*AN v) ?_ ?_
 rotate_left
 ·intro Hw acf;refine Ad (λhc=>?_)<|λhc=>?_
  ·have hc:=As hc;let⟨r,d,a1,a2,a3,a4,a5⟩:=Wa (X:=u.getD (k+1) 0) (Y:=v.getD (k+1) 0) (c:=0) hu1 hv1<| .inl rfl
   refine A6 BC<|A6 (Bf A4)<|A6 (Bf A4)<|A6 BC<|A6 (Bf A4)<|A6 a1 ?_
   have abw:u.getD (k+2) 0<=v.getD (k+1) 0:=aog hP bU0 hu0.1 hu1.1 bV1 I3.2 (by rw[<-eU,<-eV];exact hlt);refine acf _ ⟨⟨BZ,by dsimp only;unfold BB;omega⟩,⟨a2,a3⟩,a4,?_,?_⟩
   ·dsimp only;unfold BB at*;omega
   ·dsimp only;exact hlt
  ·have hc:=Bg hc;refine A6 (gA hul)<|A6 (gA hul)<|A6 BC<|A6 (Bf A4)<|A6 (Bf A4)<|A6 BC<|A6 (Bf A4) ?_
   refine Aq (y4 ⟨hu2.1,A4⟩ hu1 hv1.2) ?_;rintro⟨q,r⟩ ⟨d1,d2,d3⟩;dsimp only at d1 d2 d3⊢;have ee:q*v.getD (k+1) 0+r=u.getD (k+1) 0+BB*u.getD (k+2) 0:=by rw[FD BB];omega
   refine acf _ ⟨d1,⟨d2.1,BZ⟩,.inl rfl,BZ,?_⟩;dsimp only;have:=jW hP bU1 bV0 (show 0<=q+1 by omega)<|an5 ee d2.2 hu0.2 d1.1 I3.1
   rw[<-eU,<-eV] at this;exact this
 rintro⟨q1,r1,c1⟩ ⟨s1,s2,s3,s4,s5⟩;dsimp only at s1 s2 s3 s4 s5⊢;refine DJ (λq:Int=>(0<=q/\q<BB)/\(q-1)*AN v<=AN u/\AN u<(q+1)*AN v) ?_ ?_
 rotate_left
 ·intro NJ atG;refine EP (λs:Int×Int×Int=>(0<=s.1/\s.1<BB)/\(0<=s.2.1/\s.2.1<BB)/\(s.2.2=0\/s.2.2=1)/\s.1*v.getD (k+1) 0+(s.2.1+BB*s.2.2)=u.getD (k+1) 0+BB*u.getD (k+2) 0/\AN u<(s.1+1)*AN v)
   (λs:Int×Int×Int=>s.1.toNat) ?_ _ _ ⟨s1,s2,s3,s4,s5⟩ (by dsimp only;unfold BB at*;omega)
  rintro next ⟨q,r,c⟩ ⟨h1,h2,h3,h4,h5⟩ hn
  dsimp only at h1 h2 h3 h4 h5 hn⊢;have fin:(BB<=r+BB*c\/q*v.getD k 0<=BB*(r+BB*c)+u.getD k 0)->Yd _ (NJ q):=λhh=>by refine atG q ⟨h1,?_,h5⟩;have:=an6 (P:=B0 k) (UL:=AN<|u.take k) (VL:=AN<|v.take k) h4 h1 (by unfold BB at*;omega) I3 hu0.1 XC hh hP bU0 bV1 bV0;rw[<-eU,<-eV] at this;exact this
  refine Ad (λhc=>?_)<|λhc=>?_
  ·have hc:=As hc;subst hc;let⟨hi,lo,m1,m2,m3,m4,m5,m6⟩:=gq h1 I3;refine A6 BC<|A6 (Bf A4)<|A6 m1 ?_
   have key:Yd (λr=>okW r.1/\r.1.length=k+3/\(0<=r.2/\r.2<BB)/\AN u=r.2*AN v+AN r.1/\AN r.1<AN v)
     (cond (((decide<|hi<r)||((decide<|hi=r)&&(decide<|lo<=u.getD k 0)))) (NJ q) (bd (AH ((k+1:Nat):Int)) λJW=>bd (AB v JW) λKs=>bd (Lq r Ks (0:Int)) λIQ=>
     next (wr .u64<|q-(1:Int),IQ.1,IQ.2))):=by
    refine Ad (λhd=>?_)<|λhd=>?_
    ·grind
    ·have NH:BB*r+u.getD k 0<q*v.getD k 0:=by rw[m6];rw[MW,Bool.and_eq_false_iff,Il,Il,Il] at hd;unfold BB at*;omega
     let⟨z,d,a1,a2,a3,a4,a5⟩:=Wa (X:=r) (Y:=v.getD (k+1) 0) (c:=0) h2 hv1<| .inl rfl
     refine A6 BC<|A6 (Bf A4)<|A6 a1 ?_
     have hUq:=jW hP bU1 bV0 h1.1<|an4 (q:=q) (r:=r) (v1:=v.getD (k+1) 0) (U2:=u.getD (k+1) 0+BB*u.getD (k+2) 0) A4 NH
     rw[<-eU,<-eV] at hUq;have hq1:1<=q:=AK;have ew:wr .u64 (q-1)=q-1:=J2 ⟨A4,A4⟩;rw[ew];refine hn _ ⟨⟨BZ,BZ⟩,⟨a2,a3⟩,a4,?_,?_⟩ BZ
     ·grind
     ·grind
   have gO:∀{g:Bool} {e:AA Int} {x:Int} {K:Int->AA (A3 Int×Int)} {R:A3 Int×Int->Prop},e=some x->(g=true->Yd R (K x))->(g=false->Yd R (K 0))->Yd R (Au g 0 e K):=λh a b=>GO (λhg=>⟨_,h,a hg⟩) b
   refine gO BC (λhg=>gO (Bf A4) (λke=>gO (Bf A4) (λhg2=>key) (λh=>by rw[hg] at h;cases h)) (λh=>by rw[hg] at h;cases h))<|λhg=>?_
   refine GO (λh=>by rw[hg] at h;cases h) (λ_=>GO (λh=>by rw[hg] at h;cases h)<|λ_=>?_);have hgd:(decide (hi<r)||(decide (hi=r)&&decide (lo<=(0:Int))))=(decide (hi<r)||(decide (hi=r)&&decide (lo<=u.getD k 0))):=by
    cases ha:decide (hi<r)
    ·cases hb:decide (hi=r)
     ·rfl
     ·rw[ha,hb] at hg;exact absurd hg Lg
    ·rfl
   dsimp only at hgd⊢;rw[hgd];exact key
  ·grind
 rintro q ⟨hq,atB,atA⟩;refine EP (λs:A3 Int×Int×Int×Int=>okW s.1/\s.1.length=k+3/\(s.2.1=0\/s.2.1=1)/\(0<=s.2.2.1/\s.2.2.1<BB)/\0<=s.2.2.2/\s.2.2.2<=(k+2:Nat)/\(∀m,s.2.2.2.toNat<=m->s.1.getD m 0=u.getD m 0)/\
   AN (u.take s.2.2.2.toNat)-q*AN (v.take s.2.2.2.toNat)=AN (s.1.take s.2.2.2.toNat)-B0 s.2.2.2.toNat*(s.2.2.1+s.2.1))
  (λs:A3 Int×Int×Int×Int=>k+2-s.2.2.2.toNat) ?_ _ _ ⟨hu,hul,.inl rfl,⟨BZ,by dsimp only;unfold BB;omega⟩,BZ,BZ,λ_ _=>rfl,by simp[AN]⟩ BZ
 rintro next ⟨p,b,c,i⟩ ⟨h1,h2,h3,h4,h5,h6,h7,h8⟩ hn
 dsimp only at h1 h2 h3 h4 h5 h6 h7 h8 hn⊢;obtain⟨n,rfl⟩:=F2 h5;simp only[Ce,MV] at*;refine Ad (λhc=>?_)<|λhc=>?_
 ·have hc:=As hc;let⟨hi,lo,m1,m2,m3,m4,m5,m6⟩:=gq hq<|Fp hv n
  let⟨z,d,a1,a2,a3,a4,a5⟩:=Wa (X:=lo) (Y:=c) (c:=0) ⟨m4,m5⟩ h4<| .inl rfl
  let⟨y,b',b1,b2,b3,b4,b5⟩:=pS (X:=p.getD n 0) (Y:=z) (c:=b) (Fp h1 n) ⟨a2,a3⟩ h3;refine A6 (Bf A4)<|A6 m1<|A6 a1<|A6 (Bf A4)<|A6 (Bf A4)<|A6 b1<|A6 (Bf A4)<|A6 (Bf A4)<|A6 BC ?_
  have ew:wr .u64 (hi+d)=hi+d:=J2 ⟨A4,by unfold BB at*;omega⟩;dsimp only;rw[ew];refine hn _ ⟨Kb h1 _ ⟨b2,b3⟩,by simpa using h2,b4,⟨BZ,by dsimp only;unfold BB at*;omega⟩,BZ,BZ,?_,?_⟩ BZ
  ·grind
  ·simp only[toNat_succ',Ce];rw[FC u,FC v,FC,HI<|BM _,JE A4,<-h7 n (BM _),Jj];have k1:q*(AN (v.take n)+B0 n*v.getD n 0)=q*AN (v.take n)+B0 n*(q*v.getD n 0):=by rw[DS,GM q]
   have k2:B0 n*(p.getD n 0)-B0 n*(q*v.getD n 0)-B0 n*(c+b)=B0 n*y-BB*B0 n*(hi+d+b'):=AK;rw[k1];omega
 ·have hc:=Bg hc;have HT:n=k+2:=A4;subst HT;let⟨y,b',b1,b2,b3,b4,b5⟩:=pS (X:=p.getD (k+2) 0) (Y:=c) (c:=b) (Fp h1 _) h4 h3;refine A6 (gA h2)<|A6 (gA h2)<|A6 b1<|A6 (gA h2)<|A6 (gA h2) ?_
  simp only[Ce];have okq:=Kb h1 (k+2) ⟨b2,b3⟩;have hlen:(p.set (k+2) y).length=k+3:=by rw[LJ];exact h2
  have eW:AN (p.set (k+2) y)=AN (p.take<|k+2)+B0 (k+2)*y:=by
   have:AN ((p.set (k+2) y).take<|k+3)=AN (p.set (k+2) y):=by rw[Cz A4]
   rw[<-this,FC,HI<|BM _,JE A4]
  have eU2:AN u=AN (u.take<|k+2)+B0 (k+2)*p.getD (k+2) 0:=by
   have:AN (u.take<|k+3)=AN u:=by rw[Cz A4]
   rw[<-this,FC,h7 _<|BM _]
  rw[Cz (l:=v) A4] at h8;have main:AN u-q*AN v=AN (p.set (k+2) y)-B0 (k+3)*b':=by have k2:B0 (k+2)*p.getD (k+2) 0-B0 (k+2)*(c+b)=B0 (k+2)*y-BB*B0 (k+2)*b':=AK;rw[eW,eU2,show k+3=(k+2)+1 from rfl,Jj<|k+2];omega
  have bW:=Gh okq;rw[hlen] at bW
  generalize hR:p.set (k+2) y=R at*
  rw[ID,JI] at atA;rw[ZH,JI] at atB;refine Ad (λhd=>?_)<|λhd=>?_
  ·have hd:=As hd;have hd:b'=0:=hd;rw[hd,U5] at main;refine AU ⟨okq,hlen,hq,?_,?_⟩
   ·dsimp only;omega
   ·dsimp only;omega
  ·have hd:=Bg hd;have hd:b'=1:=AK;rw[hd,Lr] at main;have hq1:1<=q:=AK;refine EP (λs:A3 Int×Int×Int=>okW s.1/\s.1.length=k+3/\(s.2.1=0\/s.2.1=1)/\0<=s.2.2/\s.2.2<=(k+2:Nat)/\(∀m,s.2.2.toNat<=m->s.1.getD m 0=R.getD m 0)/\
     AN (s.1.take s.2.2.toNat)+B0 s.2.2.toNat*s.2.1=AN (R.take s.2.2.toNat)+AN (v.take s.2.2.toNat))
    (λs:A3 Int×Int×Int=>k+2-s.2.2.toNat) ?_ _ _ ⟨okq,hlen,.inl rfl,BZ,BZ,λ_ _=>rfl,by simp[AN]⟩ BZ
   rintro Ns ⟨t,e,j⟩ ⟨g1,g2,g3,g4,g5,g6,g7⟩ hn3;dsimp only at g1 g2 g3 g4 g5 g6 g7 hn3⊢;obtain⟨m,rfl⟩:=F2 g4;simp only[Ce,MV] at*;refine Ad (λhf=>?_)<|λhf=>?_
   ·have hf:=As hf;let⟨z,d,a1,a2,a3,a4,a5⟩:=Wa (X:=t.getD m 0) (Y:=v.getD m 0) (c:=e) (Fp g1 m) (Fp hv m) g3;refine A6 (Bf A4)<|A6 (Bf A4)<|A6 (Bf A4)<|A6 a1<|A6 (Bf A4)<|A6 (Bf A4)<|A6 BC ?_
    refine hn3 _ ⟨Kb g1 _ ⟨a2,a3⟩,by simpa using g2,a4,BZ,BZ,?_,?_⟩ BZ
    ·grind
    ·simp only[toNat_succ',Ce];rw[FC R,FC v,FC,HI<|BM _,JE A4,<-g6 m (BM _),Jj];have k2:B0 m*t.getD m 0+B0 m*v.getD m 0+B0 m*e=B0 m*z+BB*B0 m*d:=AK;omega
   ·have hf:=Bg hf;have KV:m=k+2:=A4;subst KV;have hT:=Fp g1<|k+2
    refine A6 (gA g2)<|A6 (gA g2)<|A6 (gA g2)<|A6 (gA g2)<|AU ?_
    have ew:wr .u64 (q-1)=q-1:=J2 ⟨A4,A4⟩;have ew2:wr .u64 (t.getD (k+2) 0+e)=(t.getD (k+2) 0+e)%BB:=wrW _;rw[ew,ew2];have hm0:=Lw (t.getD (k+2) 0+e) (show BB≠0 by unfold BB;omega);have hm1:=LK (t.getD (k+2) 0+e) (show 0<BB by unfold BB;omega);have hdm:=Oi (t.getD (k+2) 0+e) BB;have ht0:(t.getD (k+2) 0+e)/BB=0\/(t.getD (k+2) 0+e)/BB=1:=by unfold BB at*;omega
    generalize hM:(t.getD (k+2) 0+e)%BB=M at*
    generalize hT':(t.getD (k+2) 0+e)/BB=T at*
    have okz:=Kb g1 (k+2) ⟨hm0,hm1⟩;have hlz:(t.set (k+2) M).length=k+3:=by rw[LJ];exact g2
    have eZ:AN (t.set (k+2) M)=AN (t.take<|k+2)+B0 (k+2)*M:=by
     have:AN ((t.set (k+2) M).take<|k+3)=AN (t.set (k+2) M):=by rw[Cz A4]
     rw[<-this,FC,HI<|BM _,JE A4]
    have eR:AN R=AN (R.take<|k+2)+B0 (k+2)*t.getD (k+2) 0:=by
     have:AN (R.take<|k+3)=AN R:=by rw[Cz A4]
     rw[<-this,FC,g6 _<|BM _]
    rw[Cz (l:=v) A4] at g7;have bZ:=Gh okz;rw[hlz] at bZ;have sum:AN (t.set (k+2) M)+B0 (k+3)*T=AN R+AN v:=by have k2:B0 (k+2)*t.getD (k+2) 0+B0 (k+2)*e=B0 (k+2)*M+BB*B0 (k+2)*T:=AK;rw[eZ,eR,show k+3=(k+2)+1 from rfl,Jj<|k+2];omega
    have hpp:B0 (k+2)<=B0 (k+3):=fg A4;have hT1:T=1:=AK;rw[hT1,Lr] at sum;refine⟨okz,hlz,⟨BZ,BZ⟩,?_,?_⟩
    ·grind
    ·dsimp only;omega
def YR{A B r:Int}(h:A=q*B+r)(h0:0<=r)(h1:r<B):q=A/B/\r=A%B:=by
 have hB:B≠0:=A4;subst h;constructor
 ·rw[Int.add_comm,Int.add_mul_ediv_right _ _ hB,Int.ediv_eq_zero_of_lt h0 h1];omega
 ·rw[Int.add_comm,Int.add_mul_emod_self_right,UC h0 h1]
theorem OK(h:n<l.length):l.drop n=l.getD n 0::l.drop (n+1):=by simp_all
def dx(h:n<l.length)(x:Int):(l.set n x).drop n=x::l.drop (n+1):=by rw[OK (by rw[LJ];exact h),JE h,iS A4]
def afm(hb:okW b)(hbl:b.length=k+2)(hs:s<=63)(h1:BB<=2*(b.getD (k+1) 0*2^s))(h2:b.getD (k+1) 0*2^s<BB)
 (hw:Norm w)(hv:AN w=AN b*2^s):w.length=k+2/\BB<=2*w.getD (k+1) 0/\AN w<B0 (k+2)/\B0 (k+1)*2^s<=AN w:=by
 have ps:=two_pos s;have hP:=Lm<|k+1
 have IT:AN b=AN (b.take<|k+1)+B0 (k+1)*b.getD (k+1) 0:=by
  have:AN (b.take<|k+2)=AN b:=by rw[Cz A4]
  rw[<-this,FC]
 let⟨t0,t1⟩:=Gh<|MI hb<|k+1
 rw[E1,EV A4] at t1;have ach:=yp (s:=s) (lo:=b.getD (k+1) 0*2^s) A4 (Int.mul_emod_left _ _) h2;have hb0:=Fp hb<|k+1
 have hbt:1<=b.getD (k+1) 0:=by
  rcases(show 1<=b.getD (k+1) 0\/b.getD (k+1) 0=0 by omega) with h|h
  ·exact h
  ·rw[h,Int.zero_mul] at h1;unfold BB at h1;omega
 generalize b.getD (k+1) 0=t at*
 generalize AN (b.take<|k+1)=L at*
 have e:AN w=L*2^s+B0 (k+1)*(t*2^s):=by rw[hv,IT,ID,FO]
 have hL0:0<=L*2^s:=LH t0<|EU ps
 have hL1:L*2^s<B0 (k+1)*2^s:=Int.mul_lt_mul_of_pos_right t1 ps;have hg2:=Ew ach<|EU hP
 rw[DS] at hg2;have e3:B0 (k+2)=B0 (k+1)*BB:=by rw[Jj<|k+1,FD]
 have hlt:AN w<B0 (k+2):=by rw[e,e3];omega
 have XD:B0 (k+1)*2^s<=AN w:=by
  have h3:B0 (k+1)*(1*2^s)<=B0 (k+1)*(t*2^s):=Ew (N5 hbt<|EU ps)<|EU hP
  rw[JI] at h3;omega
 have aqk:w.length<=k+2:=hw.len hlt;have Ud:k+1<w.length:=by
  rcases Hk (k+1) w.length with h|h
  ·exact h
  ·have h5:=(Gh hw.1).2;have h6:=fg h;have h7:B0 (k+1)*1<=B0 (k+1)*2^s:=Ew A4<|EU hP
   omega
 refine⟨A4,?_,hlt,XD⟩;have hlen:w.length=k+2:=A4;have hsw:AN w=AN (w.take<|k+1)+B0 (k+1)*w.getD (k+1) 0:=by
  have:AN (w.take<|k+2)=AN w:=by rw[Cz A4]
  rw[<-this,FC]
 let⟨q0,q1⟩:=Gh<|MI hw.1<|k+1
 rw[E1,EV A4] at q1
 generalize w.getD (k+1) 0=z at*
 rcases(show BB<=2*z\/2*(z+1)<=BB by unfold BB;omega) with h|h
 ·exact h
 ·exfalso;have h8:B0 (k+1)*(2*(z+1))<=B0 (k+1)*(2*(t*2^s)):=Ew A4<|EU hP
  rw[GM,GM _ 2,DS,Lr] at h8;omega
def ald(h:okW l)(n:Nat):AN (l.take n)<=AN l:=by
 rcases Hk n l.length with h1|h1
 ·rw[Ri l n A4];have:=LH (EU<|Lm n) (Gh<|Rw h n).1;omega
 ·rw[Cz h1];exact Int.le_refl _
def drop_zero(h:okW l)(hl:n<=l.length)(hv:AN l<B0 n):AN (l.drop n)=0:=by
 have h1:=Ri l n hl;have h2:=(Gh<|Rw h n).1;have h3:=(Gh<|MI h n).1;rcases(show AN (l.drop n)=0\/1<=AN (l.drop n) by omega) with h4|h4
 ·exact h4
 ·have:=Ew h4 (EU<|Lm n);omega
def ah8(hs0:0<s)(hs:s<=63)(hx:0<=x/\x<BB)(hy:0<=y/\y<BB):∃lo:Int,Me .u64 y ((64-s:Nat):Int)=some lo/\0<=Ga .or .u64 (x/2^s) lo/\Ga .or .u64 (x/2^s) lo<BB/\Ga .or .u64 (x/2^s) lo*2^s=x-x%2^s+BB*(y%2^s):=by
 have h2:=db (s:=s) A4;have p1:=two_pos s;have p2:=two_pos<|64-s
 have r0:=Lw y (show(2:Int)^s≠0 by omega);have r1:=LK y p1;have elo:y*2^(64-s)%BB=2^(64-s)*(y%2^s):=by rw[<-h2,FD y,FD<|2^s,Int.mul_emod_mul_of_pos _ _ p2]
 refine⟨2^(64-s)*(y%2^s),by rw[jy A4,elo],?_⟩;have l0:0<=2^(64-s)*(y%2^s):=LH (EU p2) r0;have d0:0<=x/2^s:=LI hx.1<|EU p1
 have d1:x/2^s<2^(64-s):=by refine Zg p1 ?_;rw[FD,h2];exact hx.2
 have hl:2^(64-s)*(y%2^s)+2^(64-s)<=BB:=by
  have:=Ew (show y%2^s+1<=2^s by omega)<|EU p2
  rw[DS,Lr,FD _<|2^s,h2] at this;exact this
 rw[zS (s:=64-s) l0 d0 d1 (Int.mul_emod_right _ _) A4];refine⟨A4,A4,?_⟩;have e:=Oi x<|2^s
 rw[ID,Int.mul_right_comm,FD<|2^(64-s),h2,FD<|x/2^s];omega
def wW(ha:Norm a)(hb:Norm b)(h0:b≠[])(hla:a.length<2199023255552)(hlb:b.length<2199023255552):Yd (λr=>(Norm r.1/\AN r.1=AN a/AN b)/\Norm r.2/\AN r.2=AN a%AN b) (YG a b):=by
 unfold YG;have hbl:0<b.length:=by cases b;exact absurd rfl h0;simp
 have ha0:=(Gh ha.1).1;refine Aq (tn ha hb A4 A4) λc hc=>?_
 refine Ad (λhlt=>?_)<|λhlt=>?_
 ·have hlt:=As hlt;have hv:AN a<AN b:=by rcases hc with h|h|h<;>omega
  exact AU ⟨⟨Norm.nil,by rw[Int.ediv_eq_zero_of_lt ha0 hv];rfl⟩,ha,by rw[UC ha0 hv]⟩
 have hlt:=Bg hlt;have hv:AN b<=AN a:=by rcases hc with h|h|h<;>omega
 have avh:b.length<=a.length:=by
  rcases Hk a.length b.length with h|h
  ·have:=YS ha.1 hb h;omega
  ·exact h
 refine Ad (λh1=>?_)<|λh1=>?_
 ·
  have h1:=As h1;have hl1:b.length=1:=A4;obtain⟨y,rfl⟩:∃y,b=[y]:=by
   cases b with
   |nil=>cases hl1
   |cons x t=>cases t with
    |nil=>exact⟨x,rfl⟩
    |cons _ _=>simp at hl1
  have hy:0<y/\y<BB:=by
   have:=PT.1 hb.1;have h2:y≠0:=λe=>hb.2 (by rw[e];rfl)
   omega
  have eV:AN [y]=y:=by simp[AN]
  rw[eV] at hv⊢;refine A6 (Px A4 A4 A4)<|A6 BC ?_
  refine EP (λs:A3 Int×Int×Int=>okW s.1/\s.1.length=a.length/\(0<=s.2.1/\s.2.1<y)/\ -1<=s.2.2/\s.2.2<a.length/\AN (a.drop (s.2.2+1).toNat)=AN (s.1.drop (s.2.2+1).toNat)*y+s.2.1)
   (λs:A3 Int×Int×Int=>(s.2.2+1).toNat) ?_ _ _ ⟨VJ _,by simp only[Nl];omega,⟨BZ,BZ⟩,BZ,BZ,?_⟩ BZ
  rotate_left
  ·have:((a.length:Int)-1+1).toNat=a.length:=A4;dsimp only;rw[this,SG,N2 AV];simp[AN]
  rintro next ⟨o,r,i⟩ ⟨g1,g2,g3,g4,g5,g6⟩ hn
  dsimp only at g1 g2 g3 g4 g5 g6 hn⊢;refine Ad (λhp=>?_)<|λhp=>?_
  ·have hp:=As hp;obtain⟨n,rfl⟩:=F2 hp;simp only[toNat_succ',Ce,MV] at*;refine A6 (Bf A4)<|A6 (show AB [y] 0=some y from rfl) ?_
   refine Aq (y4 g3 (Fp ha.1 n) hy.2) ?_;rintro⟨q,z⟩ ⟨d1,d2,d3⟩;dsimp only at d1 d2 d3⊢;refine A6 (Bf A4)<|A6 (Bf A4)<|A6 BC ?_
   refine hn _ ⟨Kb g1 _ d1,by simpa using g2,d2,BZ,BZ,?_⟩ BZ;have e:(((n:Nat):Int)-1+1).toNat=n:=A4;simp only[e];rw[OK A4,dx A4,NS,NS,g6,ID,DS,FO,FD BB r];omega
  ·have hp:=Bg hp;have hi:i= -1:=A4;subst hi;have g6:AN a=AN o*y+r:=g6;refine Aq (Ry g1 A4) λw ⟨w1,w2,_⟩=>?_
   refine Aq (Ry (a:=[r]) (PT.2 ⟨⟨g3.1,A4⟩,ZB⟩) AV) λz ⟨z1,z2,_⟩=>?_
   have er:AN [r]=r:=by simp[AN]
   let⟨u1,u2⟩:=YR g6 g3.1 g3.2;exact AU ⟨⟨w1,by dsimp only;rw[w2,u1]⟩,z1,by dsimp only;rw[z2,er,u2]⟩
 ·
  have h1:=Bg h1;obtain⟨k,hk⟩:∃k,b.length=k+2:=⟨b.length-2,A4⟩;have hbt:0<b.getD (k+1) 0:=by
   have h3:=(Fp hb.1<|k+1).1;rcases(show 0<b.getD (k+1) 0\/b.getD (k+1) 0=0 by omega) with h|h
   ·exact h
   ·refine absurd ?_ hb.2;rw[List.getLast?_eq_getElem?,show b.length-1=k+1 from by omega];rw[JL] at h;rw[Gj A4] at h⊢;simpa using h
  let⟨s,l1,l2,l3,l4⟩:=abB hbt (Fp hb.1<|k+1).2;have e1:((b.length:Int)-1)=((k+1:Nat):Int):=A4;rw[e1];refine A6 BC<|A6 (Bf A4)<|A6 l1 ?_
  refine Aq (vt hb.1 l2 A4) λw0 ⟨p1,p2,p3⟩=>?_
  refine Aq (Ry p1 A4) λv ⟨v1,v2,_⟩=>?_
  rw[p3] at v2;let⟨v3,v4,v5,v6⟩:=afm hb.1 hk l2 l3 l4 v1 v2;refine Aq (vt ha.1 l2 A4) λu0 ⟨q1,q2,q3⟩=>?_
  obtain⟨d,hd⟩:∃d,a.length=d+(k+2):=⟨a.length-(k+2),A4⟩;have e2:((a.length:Int)-(v.length:Int))=((d:Nat):Int):=A4;rw[e2,v3];refine A6 BC<|A6 BC<|A6 (Px A4 A4 A4)<|A6 BC ?_
  have ps:=two_pos s;have hV0:0<AN v:=by have:=Int.mul_pos (Lm<|k+1) ps;omega
  refine EP (λt:A3 Int×A3 Int×Int=>okW t.1/\t.1.length=a.length+1/\okW t.2.1/\t.2.1.length=d+1/\ -1<=t.2.2/\t.2.2<=d/\AN (t.1.drop (t.2.2+1).toNat)<AN v/\
    AN a*2^s=AN v*(B0 (t.2.2+1).toNat*AN (t.2.1.drop (t.2.2+1).toNat))+AN t.1)
   (λt:A3 Int×A3 Int×Int=>(t.2.2+1).toNat) ?_ _ _ ⟨q1,q2,VJ _,by simp only[Nl];omega,BZ,BZ,?_,?_⟩ BZ
  rotate_left
  ·dsimp only;rw[toNat_succ'];have h3:=Ri u0 (d+1) A4;have h4:=(Gh<|MI q1<|d+1).1;rw[q3] at h3;have h5:=(Gh ha.1).2;have h6:AN a*2^s<B0 a.length*2^s:=Int.mul_lt_mul_of_pos_right h5 ps;rw[hd,show d+(k+2)=(d+1)+(k+1) from by omega,gW,FO] at h6;have h7:AN (u0.drop<|d+1)<B0 (k+1)*2^s:=by
    rcases(show AN (u0.drop<|d+1)<B0 (k+1)*2^s\/B0 (k+1)*2^s<=AN (u0.drop<|d+1) by omega) with h|h
    ·exact h
    ·have:=Ew h (EU<|Lm<|d+1);omega
   omega
  ·dsimp only;rw[toNat_succ',N2 AV,<-q3];simp[AN]
  rintro next ⟨u,o,j⟩ ⟨g1,g2,g3,g4,g5,g6,g7,g8⟩ hn
  dsimp only at g1 g2 g3 g4 g5 g6 g7 g8 hn⊢;refine Ad (λhp=>?_)<|λhp=>?_
  ·have hp:=As hp;obtain⟨n,rfl⟩:=F2 hp;simp only[toNat_succ',Ce,MV] at*;have e3:(((n:Nat):Int)+((k+2:Nat):Int))=((n+(k+2):Nat):Int):=A4;have e4:(((n+(k+2):Nat):Int)+1)=((n+(k+3):Nat):Int):=A4;have e5:(((n+(k+3):Nat):Int)-((n:Nat):Int)).toNat=k+3:=A4;rw[e3];refine A6 BC ?_;rw[e4];refine A6 BC<|Yd.gC ?_ ?_
   ·rw[B5 (show(0:Int)<=(n:Int) by omega),B5 (show((n:Nat):Int)<((n+(k+3):Nat):Int) by omega),B5 (show((n+(k+3):Nat):Int)<=(u.length:Int) by omega)]
    rfl
   rw[e5];have okd:=Rw g1 n;have hdl:(u.drop n).length=a.length+1-n:=by rw[Ii,g2]
   have hw:((u.drop n).take<|k+3).length=k+3:=by rw[E1];omega
   have hdn:u.drop n=u.getD n 0::u.drop (n+1):=OK A4;have hun:=Fp g1 n;have XD:AN ((u.drop n).take<|k+3)<BB*AN v:=by
    rw[hdn,show k+3=(k+2)+1 from rfl,iV,NS];have h3:=ald (Rw g1<|n+1)<|k+2
    unfold BB at*;omega
   have rM:AN (u.drop<|n+(k+3))=0:=by have:=drop_zero (Rw g1<|n+1) (n:=k+2) (by rw[Ii];omega) A4;rw[FZ] at this;rw[show n+(k+3)=n+1+(k+2) from by omega];exact this
   refine Aq (akX (k:=k) (MI okd _) v1.1 hw v3 A4 v4 XD) ?_;rintro⟨w,q⟩ ⟨s1,s2,s3,s4,s5⟩;dsimp only at s1 s2 s3 s4 s5⊢;refine Yd.gC ?_ ?_
   ·rw[s2,show Nat.blt 0 (k+3)=true from Ik A4,show Nat.ble (n+(k+3)) u.length=true from Ik A4,Nat.beq_refl]
    rfl
   refine A6 (Bf A4)<|A6 (Bf A4)<|A6 BC ?_
   have okt:=MI g1 n;have okz:=Rw g1<|n+(k+3)
   have KS:(u.take n).length=n:=by rw[E1];omega
   have e7:(((n:Nat):Int)-1+1).toNat=n:=A4;have evu:AN u=AN (u.take n)+B0 n*AN ((u.drop n).take<|k+3):=by rw[Ri u n A4,Ri (u.drop n) (k+3) A4,FZ,rM,U5,W6]
   have evn:AN (u.take n++w++u.drop (n+(k+3)))=AN (u.take n)+B0 n*AN w:=by rw[VV,VV,rM,U5,W6,KS]
   have edn:(u.take n++w++u.drop (n+(k+3))).drop n=w++u.drop (n+(k+3)):=by rw[Hm,Nf,N2 A4,KS];simp
   refine hn _ ⟨wV.2 ⟨wV.2 ⟨okt,s1⟩,okz⟩,?_,Kb g3 _ s3,by simpa using g4,BZ,BZ,?_,?_⟩ BZ
   ·dsimp only;rw[Dg,Dg,KS,s2,Ii,g2];omega
   ·dsimp only;rw[e7,edn,VV,rM,U5,W6];exact s5
   ·dsimp only;rw[e7,evn,dx A4,NS,g8,evu,s4,Jj];have k1:AN v*(B0 n*(q+BB*AN (o.drop<|n+1)))=B0 n*(q*AN v)+AN v*(BB*B0 n*AN (o.drop<|n+1)):=by rw[DS,DS,GM<|AN v,FD (AN v) q,GM (B0 n) BB,FO BB]
    rw[k1,DS];omega
  ·have hp:=Bg hp;have hj:j= -1:=A4;subst hj;have g7:AN u<AN v:=g7;have g8:AN a*2^s=AN v*(B0 0*AN o)+AN u:=g8;rw[Yp,JI] at g8;have hu0:0<=AN u:=(Gh g1).1;have hue:AN u=2^s*(AN a-AN b*AN o):=by rw[U3,FD _<|AN a,g8,v2,FD<|AN b,FO];omega
   have aqz:∃c:Int,BB=2^s*c:=⟨_,(db (s:=s) A4).symm⟩;have at1:u.getD 0 0%2^s=0:=by
    let⟨c,hc⟩:=aqz;have h3:u=u.getD 0 0::u.drop 1:=OK (n:=0) (l:=u) A4;have h4:AN u=u.getD 0 0+BB*AN (u.drop 1):=by rw[<-NS,<-h3]
    have h5:u.getD 0 0=2^s*(AN a-AN b*AN o-c*AN (u.drop 1)):=by rw[U3,<-hue,<-FO,<-hc];omega
    rw[h5,Int.mul_emod_right]
   refine EP (λt:A3 Int×Int=>okW t.1/\t.1.length=a.length+1/\0<=t.2/\t.2<=(k+2:Nat)/\(∀m,t.2.toNat<=m->t.1.getD m 0=u.getD m 0)/\
     AN (t.1.take t.2.toNat)*2^s=AN (u.take t.2.toNat)+B0 t.2.toNat*(u.getD t.2.toNat 0%2^s))
    (λt:A3 Int×Int=>k+2-t.2.toNat) ?_ _ _ ⟨g1,g2,BZ,BZ,λ_ _=>rfl,?_⟩ BZ
   rotate_left
   ·show AN (u.take 0)*2^s=AN (u.take 0)+B0 0*(u.getD 0 0%2^s);rw[at1];simp[AN]
   rintro FE ⟨r,i⟩ ⟨f1,f2,f3,f4,f5,f6⟩ IV;dsimp only at f1 f2 f3 f4 f5 f6 IV⊢;obtain⟨m,rfl⟩:=F2 f3;simp only[Ce,MV] at*;refine Ad (λhf=>?_)<|λhf=>?_
   ·have hf:=As hf;refine DJ (λz:A3 Int=>okW z/\z.length=a.length+1/\(∀x,m+1<=x->z.getD x 0=u.getD x 0)/\AN (z.take<|m+1)*2^s=AN (u.take<|m+1)+B0 (m+1)*(u.getD (m+1) 0%2^s)) ?_ ?_
    ·rintro z ⟨z1,z2,z3,z4⟩;refine A6 BC<|IV _ ⟨z1,z2,BZ,BZ,?_⟩ BZ
     dsimp only;rw[toNat_succ'];exact⟨z3,z4⟩
    ·intro k69 ace;have hx:=Fp f1 m;have hx2:=Fp f1<|m+1
     have GS:0<=r.getD m 0/2^s/\r.getD m 0/2^s<BB:=⟨LI hx.1<|EU ps,Int.lt_of_le_of_lt (SF _ hx.1) hx.2⟩;refine A6 (Bf A4)<|A6 (Bf A4)<|A6 (jx A4)<|A6 (Bf A4)<|A6 (Bf A4) ?_
     have e8:(((m:Nat):Int)+1)=((m+1:Nat):Int):=A4;have Km:∀z:Int,z*2^s=r.getD m 0-r.getD m 0%2^s+BB*(r.getD (m+1) 0%2^s)->(AN (r.take m)+B0 m*z)*2^s=AN (u.take<|m+1)+B0 (m+1)*(u.getD (m+1) 0%2^s):=by intro z hz;rw[<-f5 (m+1) A4,FC u,<-f5 m (BM _),ID,f6,FO,hz,<-f5 m (BM _),Jj,DS,U3,GM (B0 m) BB,FO BB];omega
     refine GO (λhg=>?_)<|λhg=>?_
     ·have hg:=As hg;refine⟨_,EO ⟨A4,A4⟩,Ad (λhh=>?_)<|λhh=>?_⟩
      ·let⟨lo,b1,b2,b3,b4⟩:=ah8 (s:=s) (x:=r.getD m 0) (y:=r.getD (m+1) 0) A4 l2 hx hx2;have Mf:(r.set m<|r.getD m 0/2^s).length=a.length+1:=by rw[LJ];exact f2
       have e9:((64:Int)-(s:Int))=((64-s:Nat):Int):=A4;rw[e8,e9];refine A6 (Bf A4)<|A6 (Bf A4)<|A6 BC<|A6 (Bf A4)<|A6 (Bf A4)<|A6 BC ?_
       rw[getD_set_ne (show m+1≠m by omega),JE (show m<r.length by omega)];refine A6 b1<|A6 (Bf A4)<|A6 (Bf A4) ?_
       refine ace _ ⟨Kb (Kb f1 _ GS) _ ⟨b2,b3⟩,by simpa using f2,?_,?_⟩
       ·intro x hxm;rw[getD_set_ne A4,getD_set_ne A4];exact f5 x A4
       ·rw[FC,HI<|BM _,JE A4,HI<|BM _];exact Km _ b4
      ·rw[B5 hg,Lt] at hh;have:=Bg hh;simp only[LJ] at this;omega
     ·have hg:=Bg hg;have hs0:s=0:=A4;subst hs0;refine Ad (λhh=>?_)<|λhh=>?_
      ·exact absurd (As (EB hh).1) hg
      ·refine ace _ ⟨Kb f1 _ GS,by simpa using f2,?_,?_⟩
       ·intro x hxm;rw[getD_set_ne A4];exact f5 x A4
       ·rw[FC,HI<|BM _,JE A4];refine Km _ ?_;simp[Int.emod_one]
   ·have hf:=Bg hf;have KV:m=k+2:=A4;subst KV;have hz:=drop_zero g1 (n:=k+2) A4 A4;have hz2:u.getD (k+2) 0=0:=aeh hz g1<|BM _
    have hu:AN u=AN (u.take<|k+2):=by rw[Ri u (k+2) A4,hz];omega
    rw[hz2,Int.zero_emod,U5,W6,<-hu,hue,FD] at f6;have f7:AN (r.take<|k+2)=AN a-AN b*AN o:=Int.eq_of_mul_eq_mul_left A4 f6;have f8:AN (r.take<|k+2)<AN b:=by
     have h3:2^s*(AN a-AN b*AN o)<2^s*AN b:=by rw[<-hue,FD,<-v2];exact g7
     rw[f7];exact ij h3<|EU ps
    refine Aq (Ry g3 A4) λx ⟨x1,x2,_⟩=>?_
    refine A6 (E6 A4 A4 A4) ?_;refine Aq (Ry (Rw (MI f1 _) _) (by rw[Ii,E1];omega)) λz ⟨z1,z2,_⟩=>?_
    have z3:AN z=AN (r.take<|k+2):=z2;let⟨w1,w2⟩:=YR (A:=AN a) (B:=AN b) (q:=AN o) (r:=AN<|r.take<|k+2) (by rw[f7,FD];omega) (Gh<|MI f1 _).1 f8;exact AU ⟨⟨x1,by dsimp only;rw[x2];exact w1⟩,z1,by dsimp only;rw[z3];exact w2⟩
theorem qJ(h:2^k<=n):k<=Nat.log2 n:=by have h0:n≠0:=AK;exact(Nat.le_log2 h0).2 h
def pj:∀n:Nat,B0 n=((2^(64*n):Nat):Int)
 |0=>rfl
 |n+1=>by rw[Jj,pj n,show 64*(n+1)=64+64*n from by omega,Mu,SE];rfl
theorem Cg.len(h:Cg r z)(hz:DB z=true):r.2.length<1099511627776:=by
 rcases h with⟨h,_⟩|⟨h0,h1,h2,h3,h4,h5⟩
 ·rw[h];simp
 ·have hl:=Td h2 h0 h3;have hz:=Fa hz;have e:(z.natAbs:Int)=AN r.2:=AK;rw[pj,<-e] at hl;have hl:2^(64*(r.2.length-1))<=z.natAbs:=AK;have:=qJ hl;omega
def oq{n:Int}(h:Cp n):Vc n=some (n.natAbs:Int):=by
 unfold Cp at h;unfold Vc;by_cases h0:n<0
 ·rw[B5 h0];show some (wr .u64<|wr .i64<|0-n)=_;by_cases h1:n= -9223372036854775808
  ·subst h1;rfl
  ·have e1:wr .i64 (0-n)=0-n:=wrap_i64 ⟨A4,A4⟩;have e2:wr .u64 (0-n)=0-n:=wrap_u64 ⟨A4,A4⟩;rw[e1,e2]
   congr 1;omega
 ·rw[Bu h0];show some (wr .u64 n)=_;have e2:wr .u64 n=n:=wrap_u64 ⟨A4,A4⟩;rw[e2]
  congr 1;omega
theorem QL(h:Cg r z):Yd (λp=>p.1=decide (z<0)/\Norm p.2/\AN p.2=(z.natAbs:Int)/\p.2.length<=r.2.length+1) (NM r):=by
 unfold NM;rcases h with⟨h1,h2,h3⟩|⟨h0,h1,h2,h3,h4,h5⟩
 ·rw[h1];refine Ad (λhc=>by simp at hc)<|λ_=>?_
  rw[h2];refine Ad (λhc=>?_)<|λhc=>?_
  ·have hc:=As hc;subst hc;exact AU ⟨rfl,Norm.nil,rfl,AV⟩
  ·have hc:=Bg hc;refine A6 (oq h3) (AU ⟨rfl,⟨?_,?_⟩,by simp[AN],AV⟩)
   ·rw[PT];unfold Cp at h3;exact⟨⟨A4,by unfold BB;omega⟩,ZB⟩
   ·simp;omega
 ·have hv:=(Gh h2).1;refine Ad (λ_=>AU ⟨?_,⟨h2,h3⟩,?_,by dsimp;omega⟩)<|λhc=>?_
  ·grind
  ·grind
  ·grind
def Tp(h:Norm w)(neg:Bool):Yd (λr=>Cg r<|bif neg then -AN w else AN w) (PM neg w):=by
 unfold PM;let⟨hw,hl⟩:=h
 match w,hw,hl with
 |[],_,_=>refine Ad (λ_=>AU (.inl ⟨rfl,by cases neg<;>rfl,by cases neg<;>(unfold Cp;simp[AN])⟩)) (λhc=>by simp at hc)
 |[x],hw,hl=>
  rw[PT] at hw;let⟨⟨hx0,hx1⟩,_⟩:=hw;have ev:AN [x]=x:=by simp[AN]
  have hx:x≠0:=λe=>hl (by rw[e];rfl)
  have g0:AB [x] (0:Int)=some x:=rfl;rw[ev];refine Ad (λhc=>by simp at hc)<|λ_=>?_
  refine GO (λ_=>⟨x,g0,?_⟩) (λhc=>by simp[gd] at hc);refine Ad (λhc=>?_)<|λhc=>?_
  ·let⟨hc,It⟩:=EB hc;let⟨_,hc⟩:=EB hc;have hc:=As hc;subst It;have e1:wr .i64 x=x:=wrap_i64 ⟨A4,A4⟩;exact A6 g0 (A6 (EO (by rw[e1];exact⟨A4,A4⟩)) (AU (.inl ⟨rfl,by rw[e1];rfl,by unfold Cp;simp[BH];omega⟩)))
  ·refine GO (λ_=>⟨x,g0,?_⟩) (λhc=>by simp[gd] at hc);refine Ad (λhd=>?_)<|λhd=>?_
   ·let⟨_,hd'⟩:=EB hd;have avm:=As hd';rw[hd] at hc;have It:neg=false:=by simpa using hc
    subst It;have e1:wr .i64 x=x:=wrap_i64 ⟨A4,A4⟩;exact A6 g0 (AU (.inl ⟨rfl,by rw[e1];rfl,by unfold Cp;simp[Ar];omega⟩))
   ·have NH:9223372036854775807<x:=by have:decide (([x].length:Int)=(1:Int))=true:=rfl;rw[this,Lt] at hd;have:=Bg hd;omega
    have Ax:okW [x]:=by rw[PT];exact⟨⟨hx0,hx1⟩,ZB⟩
    refine Ad (λhn=>?_)<|λhn=>?_
    ·subst hn;exact Yd.gC rfl (AU (.inr ⟨AV,.inr rfl,Ax,hl,by rw[ev];simp,by rw[ev];exact NH⟩))
    ·subst hn;exact Yd.gC rfl (AU (.inr ⟨AV,.inl rfl,Ax,hl,by rw[ev];simp,by rw[ev];exact NH⟩))
 |x::y::l,hw,hl=>
  have NH:9223372036854775807<AN (x::y::l):=by have h1:=Td hw AV hl;have h2:B0 1<=B0 ((x::y::l).length-1):=fg AV;have h3:B0 1=BB:=rfl;unfold BB at h3;omega
  have hn1:decide (((x::y::l).length:Int)=(1:Int))=false:=Bu DC;refine Ad (λhc=>by have:=As hc;simp at this;omega)<|λ_=>?_
  refine GO (λhc=>by simp only[gd] at hc;rw[hn1] at hc;cases hc)<|λ_=>?_
  refine Ad (λhc=>by rw[hn1] at hc;simp at hc)<|λ_=>?_
  refine GO (λhc=>by simp only[gd] at hc;rw[hn1] at hc;cases hc)<|λ_=>?_
  refine Ad (λhc=>by rw[hn1] at hc;simp at hc)<|λ_=>?_
  refine Ad (λhn=>?_)<|λhn=>?_
  ·subst hn;exact Yd.gC rfl<|AU<| .inr ⟨AV,.inr rfl,hw,hl,AV,NH⟩
  ·subst hn;exact Yd.gC rfl<|AU<| .inr ⟨AV,.inl rfl,hw,hl,AV,NH⟩
theorem Vs(h:Cg r z):QB r=some z.sign:=by
 unfold QB
 congr 1
 unfold mx_ mn_;rcases h with⟨h1,h2,h3⟩|⟨h0,h1,h2,h3,h4,h5⟩
 ·grind
 ·grind
theorem S5(h:Cg r z):Yd (λq=>Cg q<| -z) (OF r):=by
 unfold OF;refine Ad (λhc=>?_)<|λhc=>?_
 ·let⟨h1,h2⟩:=EB hc;rw[GA,Il] at h2;rcases h with⟨g1,g2,g3⟩|⟨h0,_⟩
  ·unfold Cp at g3;exact A6 BC (AU (.inl ⟨rfl,by dsimp;omega,by unfold Cp;omega⟩))
  ·grind
 ·refine Aq (QL h) λp ⟨p1,p2,p3,_⟩=>Aq (Tp p2<| !p.1) λq hq=>AU ?_
  rw[p1,p3] at hq;by_cases hz:z<0
  ·grind
  ·grind
theorem qD(h:Cg r z):Yd (λq=>Cg q (z.natAbs:Int)) (Y8 r):=by
 unfold Y8;have hs:r.1<0↔z<0:=by
  rcases h with⟨g1,g2,g3⟩|⟨h0,h1,h2,h3,h4,h5⟩
  ·rw[g2]
  ·grind
 refine Ad (λhc=>?_)<|λhc=>?_
 ·have hc:=hs.1 (As hc);refine Aq (S5 h) λq hq=>AU ?_
  rwa [show((z.natAbs:Nat):Int)= -z by omega]
 ·have hc:=Bg hc;have: ¬z<0:=λh=>hc<|hs.2 h
  refine AU ?_;rwa [show((z.natAbs:Nat):Int)=z by omega]
theorem gp{s:Int×A3 Int}(hr:Cg r x)(hs:Cg s y)(hlr:r.2.length<2199023255552)(hls:s.2.length<2199023255552):Yd (λq=>Cg q<|x+y) (TT r s):=by
 unfold TT;refine DJ (λ_=>True) (λ_ _=>?_)<|λk hk=>Ad (λhc=>?_)<|λ_=>hk _ trivial
 ·refine Aq (QL hr) λp ⟨p1,p2,p3,p4⟩=>Aq (QL hs) λq ⟨q1,q2,q3,q4⟩=>?_
  refine Ad (λhc=>?_)<|λhc=>?_
  ·refine Aq (afl p2.1 q2.1 A4 A4) λw ⟨w1,w2⟩=>Aq (Tp w1 p.1) λz hz=>AU ?_
   rw[w2,p3,q3,p1] at hz;rw[p1,q1,QZ] at hc;by_cases h1:x<0
   ·grind
   ·grind
  ·have hne: ¬(x<0↔y<0):=by intro h;rw[p1,q1] at hc;simp[h] at hc
   refine Aq (tn p2 q2 A4 A4) λc hcmp=>Ad (λhd=>?_)<|λhd=>?_
   ·have hd:=As hd;have hle:AN q.2<=AN p.2:=A4;have hlen:q.2.length<=p.2.length:=by
     rcases Hk p.2.length q.2.length with h|h
     ·have:=YS p2.1 q2 h;omega
     ·exact h
    refine Aq (vQ p2.1 q2.1 hlen A4 hle) λw ⟨w1,w2⟩=>Aq (Tp w1 p.1) λz hz=>AU ?_
    rw[w2,p3,q3,p1] at hz;by_cases h1:x<0
    ·grind
    ·grind
   ·have hd:=Bg hd;have hle:AN p.2<=AN q.2:=A4;have hlen:p.2.length<=q.2.length:=by
     rcases Hk q.2.length p.2.length with h|h
     ·have:=YS q2.1 p2 h;omega
     ·exact h
    refine Aq (vQ q2.1 p2.1 hlen A4 hle) λw ⟨w1,w2⟩=>Aq (Tp w1 q.1) λz hz=>AU ?_
    rw[w2,p3,q3,q1] at hz;by_cases h1:y<0
    ·grind
    ·grind
 ·let⟨h1,h2⟩:=EB hc;rw[WE] at h1 h2;rcases hr with⟨_,e1,i1⟩|⟨h0,_⟩
  ·rcases hs with⟨_,e2,i2⟩|⟨h0,_⟩
   ·rw[e1,e2];unfold Cp at i1 i2;refine Ad (λhd=>AU<| .inl ⟨rfl,?_,?_⟩)<|λ_=>hk _ trivial
    all_goals
     by_cases kM: -9223372036854775808<=x+y/\x+y<=9223372036854775807
     ·first
      |exact wrap_i64 kM
      |exact kM
     ·exfalso;rw[QZ] at hd;rcases Int.lt_or_lt_of_ne (show x+y≠0 by omega) with hlt|hgt
      ·have e3:wr .i64 (x+y)=x+y+18446744073709551616:=by
        have:wr .i64 (x+y)=wr .i64 (x+y+18446744073709551616):=by unfold wr IntKind.wrap;simp[IntKind.bits,IntKind.signed]
        rw[this];exact wrap_i64 ⟨A4,A4⟩
       rw[e3] at hd;have a1:x<x+y+18446744073709551616:=A4;have a2: ¬0<y:=A4;simp[a1,a2] at hd
      ·have e3:wr .i64 (x+y)=x+y-18446744073709551616:=by
        have:wr .i64 (x+y)=wr .i64 (x+y-18446744073709551616):=by unfold wr IntKind.wrap;simp[IntKind.bits,IntKind.signed]
        rw[this];exact wrap_i64 ⟨A4,A4⟩
       rw[e3] at hd;have a1: ¬x<x+y-18446744073709551616:=A4;have a2:0<y:=A4;simp[a1,a2] at hd
   ·grind
  ·grind
theorem pR(z:Int):DB (-z)=DB z:=by grind [DB]
def Wb(h:x.natAbs<=y.natAbs)(hy:DB y=true):DB x=true:=by
 unfold DB at*;refine Ik ?_;have:=Fa hy;by_cases h0:x.natAbs=0
 ·rw[h0];decide
 ·have h1:Nat.log2 x.natAbs<=Nat.log2 y.natAbs:=(Nat.le_log2 A4).2 (Cu ((Nat.le_log2 h0).1<|BM _) h);omega
def aBl{s:Int×A3 Int}(hr:Cg r x)(hs:Cg s y)(hx:DB x=true)(hy:DB y=true):Yd (λq=>Cg q<|x-y) (Y5 r s):=by
 unfold Y5;refine Aq (S5 hs) λn hn=>Aq (gp hr hn (by have:=hr.len hx;omega) (by have:=hn.len (by rw[pR];exact hy);omega)) λq hq=>AU ?_
 rwa [Int.sub_eq_add_neg]
theorem aa1{s:Int×A3 Int}(hr:Cg r x)(hs:Cg s y)(hx:DB x=true)(hy:DB y=true):Yd (λq=>Cg q<|x*y) (TR r s):=by
 have sgn:∀(b:Bool),b=(!(decide (x<0)==decide (y<0)))->(bif b then -((x.natAbs:Int)*(y.natAbs:Int)) else(x.natAbs:Int)*(y.natAbs:Int))=x*y:=AK;unfold TR;refine DJ (λ_=>True) (λ_ _=>?_)<|λk hk=>Ad (λhc=>?_)<|λ_=>hk _ trivial
 ·refine Aq (QL hr) λp ⟨p1,p2,p3,p4⟩=>Aq (QL hs) λq ⟨q1,q2,q3,q4⟩=>?_
  have l1:=hr.len hx;have l2:=hs.len hy;refine Aq (afk p2.1 q2.1 A4 A4) λw ⟨w1,w2⟩=>Aq (Tp w1<| !(p.1==q.1)) λz hz=>AU ?_
  rw[w2,p3,q3,sgn _ (by rw[p1,q1])] at hz;exact hz
 ·let⟨h1,h2⟩:=EB hc;rw[WE] at h1 h2;rcases hr with⟨_,e1,i1⟩|⟨h0,_⟩
  ·rcases hs with⟨_,e2,i2⟩|⟨h0,_⟩
   ·rw[e1,e2];unfold Cp at i1 i2;have bx:(0:Int)<=(x.natAbs:Int)/\(x.natAbs:Int)<BB:=⟨A4,by unfold BB;omega⟩;have by':(0:Int)<=(y.natAbs:Int)/\(y.natAbs:Int)<BB:=⟨A4,by unfold BB;omega⟩;let⟨hi,lo,m1,m2,m3,m4,m5,m6⟩:=gq bx by';refine A6 (oq i1)<|A6 (oq i2)<|A6 m1<|Ad (λhd=>?_)<|λ_=>hk _ trivial
    let⟨d1,d2⟩:=EB hd;have d1:=As d1;have d2:=As d2;have e3:wr .i64 lo=lo:=wrap_i64 ⟨A4,A4⟩;have d1:hi=0:=d1;have hp:(x.natAbs:Int)*(y.natAbs:Int)=lo:=by rw[m6,d1];omega
    have s2:=sgn _ rfl;rw[hp] at s2;refine Ad (λhn=>?_)<|λhn=>?_
    ·rw[hn] at s2;simp[BH] at s2;rw[e3];exact A6 BC (AU (.inl ⟨rfl,s2,by unfold Cp;omega⟩))
    ·rw[hn] at s2;simp[Ar] at s2;rw[e3];exact AU (.inl ⟨rfl,s2,by unfold Cp;omega⟩)
   ·grind
  ·grind
theorem ama{s:Int×A3 Int}(hr:Cg r x)(hs:Cg s y)(hx:DB x=true)(hy:DB y=true):mI r s=some (Us x y):=by
 refine GJ ?_;unfold mI;refine Ad (λhc=>?_)<|λ_=>Aq (aBl hr hs hx hy) λq hq=>A6 (Vs hq)<|AU ?_
 ·let⟨h1,h2⟩:=EB hc;rw[WE] at h1 h2;rcases hr with⟨_,e1,i1⟩|⟨h0,_⟩
  ·rcases hs with⟨_,e2,i2⟩|⟨h0,_⟩
   ·rw[e1,e2];unfold Us;refine Ad (λh=>AU (by rw[h];rfl)) (λh=>Ad (λk=>AU (by rw[h,k];rfl)) (λk=>AU (by rw[h,k];rfl)))
   ·grind
  ·grind
 ·unfold Us;rcases WH x y with h|h|h
  ·grind
  ·grind
  ·grind
theorem aiu(h:Cg r z)(hz:z≠ -9223372036854775808):dD r=some (bif He z then(z,true) else(z.sign,false)):=by
 unfold dD
 congr 1
 rcases h with⟨h1,h2,h3⟩|⟨h0,h1,h2,h3,h4,h5⟩
 ·unfold Cp at h3;have:He z=true:=by unfold He;rw[B5 h3.1,B5 h3.2];rfl
  rw[this,h1,h2];rfl
 ·have:He z=false:=by
   unfold He;rcases h1 with e|e
   ·grind
   ·grind
  rw[this];have hs:r.1=z.sign:=AK;have he:r.2.isEmpty=false:=AK;rw[hs,he];rfl
def pg{r:Int}(h0:0<y)(h:r+y*q=x)(h1:0<=r)(h2:r<y):q=x/y/\r=x%y:=by let⟨h3,h4⟩:=(Int.ediv_emod_unique h0).2 ⟨h,h1,h2⟩;exact⟨h3.symm,h4.symm⟩
def wu(h0:0<y):(0<=x->0<=x/y/\x/y<=x)/\(x<0->x<=x/y/\x/y<0):=by
 constructor
 ·intro h;exact⟨LI h A4,SF y h⟩
 ·intro h;refine⟨(Int.le_ediv_iff_mul_le h0).2 ?_,Int.ediv_neg_of_neg_of_pos h h0⟩;have:x*y<=x*1:=Int.mul_le_mul_of_nonpos_left A4 A4;omega
end
end Trn
