/- Part of SolidMeasures. -/
import Derived.Test.YtmjkpiakobnkgaaGreatDoorFa
import Derived.Test.YtmjkpiakobnkgaaGreatDoorMa
import Derived.Test.YtmjkpiakobnkgaaGreatDoorSa
import Derived.Shelf.SlSortCmp.NoneTotal
set_option maxRecDepth 100000
set_option maxHeartbeats 20000000
set_option linter.all false
open Go Go.RowKit Go.Proofs Go.Proofs.Tryz
namespace Trn
section
open Go.Shelf
variable[D:DR]
variable{k:Nat}{xs:A3 AV}
def chunk(k:Nat)(xs:A3 AV)(i:Nat):A3 AV:=(xs.drop<|i*k).take k
theorem Tp{n:Nat}(h:xs.length=n*k){i:Nat}(hi:i<n):(chunk k xs i).length=k:=by have:(i+1)*k<=n*k:=LS k hi;rw[Ke,Lt] at this;simp[chunk];omega
theorem yc{n:Nat}(h:xs.length=n*k){t:Nat}(ht:t<n*k):(chunk k xs<|t/k)[t%k]? =xs[t]? :=by
 have hk:0<k:=(M1 k).elim (λe=>by subst e;simp at ht) id;have hm:=OS t hk;unfold chunk;rw[WX,if_pos hm,UK]
 congr 1
 rw[MV];exact Nat.div_add_mod t k
theorem aiC{ys:A3 AV}(h:ys.length=k):chunk k (ys++xs) 0=ys:=by simp[chunk,<-h]
theorem aiD{ys:A3 AV}(h:ys.length=k)(i:Nat):chunk k (ys++xs) (i+1)=chunk k xs i:=by
 unfold chunk;rw[Ke,Lt,Pc,<-h,Nl];have e:List.drop (ys.length+i*ys.length) ys=[]:=List.drop_eq_nil_of_le A4;rw[e,Ie]
 congr 2;omega
end
section
open Go.Shelf
variable[D:DR]
variable{P:Program}{A:Type}{τ:A->Ty}{k:Nat}{H:HV}
theorem Tm(hn:∀a,(τ a).n=k)(ha:∀a,(τ a).agg=true):∀{l:A3 A} {xs:A3 AV},Db H (lT τ l) xs->xs.length=l.length*k/\∀i (hi:i<l.length),(τ l[i]).ok H (.agg (chunk k xs i).toArray)
 |[],xs,h=>by have h:xs=[]:=h;subst h;exact⟨AT,λi hi=>absurd hi<|Nat.not_lt_zero _⟩
 |a::l,xs,h=>by
  let⟨v,rest,e,hv,hr⟩:=h;have sh:=(τ a).shape hv;let⟨hl,hc⟩:=Tm hn ha hr;have hs:v.cells.toList.length=k:=by rw[Fv,sh.size,hn]
  subst e;refine⟨by simp[DS,hs,hl,E2];rw[Ke];omega,λi hi=>?_⟩;cases i with
  |zero=>rw[aiC hs];have e:=sh.eq;rw[ha] at e;have e:v= .agg v.cells:=e;simpa[<-e] using hv
  |succ i=>rw[aiD hs];exact hc i (by simpa using hi)
theorem df:∀{l:A3 A} {xs:A3 AV},xs.length=l.length*k->(∀i (hi:i<l.length),(τ l[i]).ok H<| .agg (chunk k xs i).toArray)->Db H (lT τ l) xs
 |[],xs,h,_=>LU (by simpa using h)
 |a::l,xs,h,hc=>by
  have hlen:xs.length=k+l.length*k:=by simpa[Ke,Pc] using h
  have h0:=hc 0 AT;have e0:chunk k xs 0=xs.take k:=by simp[chunk]
  rw[e0] at h0;refine⟨_,xs.drop k,?_,h0,df (by simp[hlen]) λi hi=>?_⟩
  .simp[Value.cells]
  .have:=hc (i+1) (by simpa using hi);have e:chunk k xs (i+1)=chunk k (xs.drop k) i:=by unfold chunk;rw[Fe,Ke,Lt,Pc]
   rwa [e] at this
end
section
open Go.Shelf
variable[D:DR]
variable{w:AR}
theorem aal{w':AR}(h: @Fc DR.strict w.heap.size w w'):∃q os,w'=Go.Sort.grow (w.drewN q) os:=by
 refine⟨w'.drawn-w.drawn,w'.heap.extract w.heap.size w'.heap.size,?_⟩;have hd:w.drawn+(w'.drawn-w.drawn)=w'.drawn:=by have h:w.drawn<=w'.drawn:=Fc.drawn (D:=DR.strict) h;omega
 have hh:w.heap++w'.heap.extract w.heap.size w'.heap.size=w'.heap:=by
  apply Array.ext_getElem?;intro i;rw[ik];have hs:=(Fc.toBelow (D:=DR.strict) h).size;split
  .rename_i hi;exact((Fc.toBelow (D:=DR.strict) h).block i hi).symm
  .grind
 let⟨heap,tape,drawn,os,output⟩:=w';let⟨awC,aw6,aw1,os0,avx⟩:=w;simp only[World.drewN,Go.Sort.grow];simp[World.mk.injEq];have hb:=Fc.toBelow (D:=DR.strict) h;exact⟨hh.symm,hb.tape,hd.symm,hb.os,hb.output⟩
theorem Xn{α:Type}[Inhabited α]{enc:α->A3 AV}{k:Nat}{blk off m:Nat}{dk:BG α}{os:BG Obj}{r:Nat}(hr:r<w.heap.size)(hne:r≠blk):(sortWorldK enc k w blk off m dk os).heap[r]? =w.heap[r]? :=by unfold sortWorldK Go.Sort.grow Go.Sort.putRowK Go.Sort.putRow Go.Sort.mapBlock Go.Sort.ahead;simp only[ik,Array.size_modify,hr,if_pos,UP];rw[if_neg<|λe=>hne e.symm]
theorem lN{α:Type}[Inhabited α]{enc:α->A3 AV}{k:Nat}{blk off m:Nat}{dk:BG α}{os:BG Obj}:w.heap.size<=(sortWorldK enc k w blk off m dk os).heap.size:=by unfold sortWorldK Go.Sort.grow Go.Sort.putRowK Go.Sort.putRow Go.Sort.mapBlock Go.Sort.ahead;simp
end
section
open Go.Shelf
variable[D:DR]
variable{P:Program}{A:Type}{τ:A->Ty}{k:Nat}{H:HV}{c:A×A->Option Int}
theorem xd(hn:∀a,(τ a).n=k)(ha:∀a,(τ a).agg=true){l:A3 A}{xs:A3 AV}{w:AR}{blk off g:Nat}{cap:BG AV}{FD:A3 Ty}(hxs:Db H (lT τ l) xs)
  (sub:∀r o,H r=some o->w.heap[r]? =some o)(gl:LY P H)(hB:H blk=none)(RJ:Ee H FD cap.toList)
  (hf:∀a r,c a=some r-> @Eg DR.strict P g ([τ a.1,τ a.2]++FD) (.vs [TI .i64 r]))(cf:Fin l.length->Fin l.length->Int)(tot:∀i j,c (l[i],l[j])=some (cf i j))[Inhabited<|Fin l.length]:CmpLays P g cap (λi:Fin l.length=>chunk k xs i) k cf blk off l.length w:=by
 intro m os dk hdk x y;let⟨_,hc⟩:=Tm hn ha hxs;have hs:∀r o,H r=some o->(sortWorldK (λi:Fin l.length=>chunk k xs i) k w blk off m dk os).heap[r]? =some o:=λr o h=>by have h1:=sub r o h;rw[Xn (lt_of_heap h1) (λe=>by rw[e,hB] at h;cases h)];exact h1
 have hr:=Eg.run (D:=DR.strict) (hf (l[x],l[y]) _<|tot x y) _ H ([Value.agg (chunk k xs x).toArray,Value.agg (chunk k xs y).toArray]++cap.toList) hs gl<|Ya ⟨_,_,rfl,hc x x.2,_,_,rfl,hc y y.2,rfl⟩ RJ
 have ea:([Value.agg (chunk k xs x).toArray,Value.agg (chunk k xs y).toArray]++cap.toList).toArray= #[Value.agg (chunk k xs x).toArray,Value.agg (chunk k xs y).toArray]++cap:=AT;rw[ea] at hr;refine hr.mono ?_;rintro e w' ⟨v,rfl,hb,H',_,_,hv⟩;have hv:v= .int .i64 (cf x y):=hv;subst hv;exact⟨rfl,aal hb⟩
end
section
open Go.Shelf
variable[D:DR]
variable{α:Type}{k:Nat}{cur:BG AV}
theorem o0[Inhabited α]{enc:α->A3 AV}(hk:∀x,(enc x).length=k){d:BG α}{i:Nat}(hi:i<d.size):chunk k (Go.Sort.flatK enc k d).toList i=enc d[i]! :=by
 have hb:i*k+k<=d.size*k:=by
  have:=LS k<|show i+1<=d.size from hi
  rwa [Ke,Lt] at this
 apply WT;intro t;unfold chunk;rw[WX];by_cases ht:t<k
 .rw[if_pos ht,UK,Ps];have hlt:i*k+t<d.size*k:=A4;have e1:(i*k+t)/k=i:=by rw[MV,Nat.mul_add_div A4,Nat.div_eq_of_lt ht,UF]
  have e2:(i*k+t)%k=t:=by rw[MV,Nat.mul_add_mod,Sd ht]
  have hl:=hk d[i]!;unfold Go.Sort.flatK;rw[Array.getElem?_map,Array.getElem?_range,if_pos hlt,Ph,e1,e2,K6 (enc d[i]!) t A4,Gs A4]
 .grind
theorem w9{n:Nat}{xs:A3 AV}{w:AR}{blk:Nat}{E:Ap}[Inhabited<|Fin n](hl:xs.length=n*k)(hb:w.heap[blk]? =some (.cells cur E (0,0)))(ht:cur.toList.take (n*k)=xs):Go.Sort.HoldsK (λi:Fin n=>chunk k xs i) k w blk 0 (Array.ofFn λi:Fin n=>i):=by
 unfold Go.Sort.HoldsK Go.Sort.Holds;intro j hj;rw[Go.Sort.size_flatK,WN] at hj;have MA:cur[j]? =xs[j]? :=AK;have hk:0<k:=(M1 k).elim (λe=>by subst e;simp at hj) id;have hi:j/k<n:=Nat.div_lt_of_lt_mul (by rw[MV];exact hj);refine⟨?_,by simp[World.frozen?,hb]⟩;rw[Go.Sort.get_flatK _ _ _ _ (by simpa using hj),Pd];rw[Zb hb,MA];have e1:(Array.ofFn λi:Fin n=>i)[j/k]! =⟨j/k,hi⟩:=by rw[K6 (Array.ofFn λi:Fin n=>i) (j/k) (by simpa using hi)];simp
 rw[e1];have hg:=yc hl hj;have hlt:j%k<(chunk k xs<|j/k).length:=AK;show xs[j]? =some (id (chunk k xs<|j/k)[j%k]!);rw[<-hg,K6 (chunk k xs<|j/k) (j%k) hlt,Gs hlt];rfl
theorem uG[Inhabited α]{enc:α->A3 AV}{w:AR}{blk m:Nat}{dk:BG α}{os:BG Obj}{E:Ap}{fr:Nat×Nat}(hb:w.heap[blk]? =some (.cells cur E fr)):(sortWorldK enc k w blk 0 m dk os).heap[blk]? =some (.cells (Go.Sort.putCells id 0 (Go.Sort.flatK enc k dk) cur) E fr):=by
 unfold sortWorldK Go.Sort.grow Go.Sort.putRowK Go.Sort.putRow Go.Sort.mapBlock Go.Sort.ahead;simp only[ik,Array.size_modify,lt_of_heap hb,if_pos,UP,hb,Ph]
 rfl
theorem vR[Inhabited α]{d:BG AV}(h:d.size<=cur.size):(Go.Sort.putCells id 0 d cur).toList.take d.size=d.toList:=by
 apply WT;intro i;rw[WX];split
 .rename_i hi;rw[Ps,Ps];unfold Go.Sort.putCells;rw[Array.getElem?_mapIdx,j4 (by omega:i<cur.size),Ph,if_pos ⟨FV _,A4⟩,Nat.sub_zero,j4 hi,K6 d i hi];rfl
 .grind
end
section
open Go.Shelf
variable[D:DR]
variable{P:Program}{ρ:Ren}{A:Type}[DecidableEq A]{τ:A->Ty}{k:Nat}{c:A×A->Option Int}
variable{l r:A3 A}
theorem ajI{α:Type}{l:A3 α}{d:BG (Fin l.length)}(h:d.toList.Perm (Array.ofFn λi:Fin l.length=>i).toList):(d.toList.map λi=>l[i]).Perm l:=by
 have h1:=h.map λi:Fin l.length=>l[i]
 have e:(Array.ofFn λi:Fin l.length=>i).toList.map (λi:Fin l.length=>l[i])=l:=by rw[Array.toList_ofFn,List.map_ofFn];exact List.ofFn_getElem
 rwa [e] at h1
theorem xy(hm:Ia l c=some r)[Inhabited<|Fin l.length]{cf:Fin l.length->Fin l.length->Int}(tot:∀i j,c (l[i],l[j])=some (cf i j)){d:BG (Fin l.length)}
 (hp:Go.Sort.PermIn 0 l.length (Array.ofFn λi:Fin l.length=>i) d)(hs:Go.Sort.SortedIn (ltOf cf) 0 l.length d):d.size=l.length/\(d.toList.map λi=>l[i])=r:=by
 let⟨h1,h2,_,_⟩:=YO hm;let⟨hz,_,X2⟩:=hp;rw[WN] at hz;have e1:d.extract 0 d.size=d:=Array.extract_size;rw[hz] at e1;have e2:(Array.ofFn λi:Fin l.length=>i).extract 0 l.length=Array.ofFn λi:Fin l.length=>i:=by
  have h:(Array.ofFn λi:Fin l.length=>i).extract 0 (Array.ofFn λi:Fin l.length=>i).size=Array.ofFn λi:Fin l.length=>i:=Array.extract_size
  rwa [WN] at h
 rw[e1,e2] at X2;have Js:=ajI X2;refine⟨hz,xx h2 (Js.trans h1.symm) ?_⟩;refine Zt.2 λi j hi hj KW=>?_
 simp[C2,Fv] at hi hj;have hlt:=hs i j (FV _) KW A4;rw[K6 d j hj,K6 d i hi] at hlt;simp only[List.getElem_map,Array.getElem_toList];have hn: ¬cf d[j] d[i]<0:=by simpa[ltOf] using hlt
 have mem:∀i:Fin l.length,l[i]∈r:=λi=>h1.mem_iff.2<|Lz _
 have:=mt (fj h2 (mem d[j]) (mem d[i])<|tot d[j] d[i]).2 hn;omega
theorem yn(hm:Ia l c=some r){cf:Fin l.length->Fin l.length->Int}(tot:∀i j,c (l[i],l[j])=some (cf i j)):Go.Sort.SWO (ltOf cf):=by
 let⟨h1,h2,_,_⟩:=YO hm;have mem:∀i:Fin l.length,l[i]∈r:=λi=>h1.mem_iff.2<|Lz _
 have key:∀i j,ltOf cf i j=decide (r.idxOf l[i]<r.idxOf l[j]):=λi j=>by unfold ltOf;exact Gr.2<|fj h2 (mem i) (mem j)<|tot i j
 refine⟨λx=>?_,λx y z h1 h2=>?_,λx y z h1 h2=>?_⟩
 .rw[key];simp
 .grind
 .grind
theorem akM(hn:∀a,(τ a).n=k)(ha:∀a,(τ a).agg=true){xs:A3 AV}{H:HV}{w:AR}{blk Ei:Nat}{cur:BG AV}{E:Ap}{B:Ah P}(sub:∀r o,H r=some o->w.heap[r]? =some o)(Az:Db H (lT τ l) xs)
 (hown:∀b,Value.ownBlock (.slice (some ⟨blk,0,none⟩) l.length Ei)=some b->H b=none/\B.EH b)(hblk:w.heap[blk]? =some (.cells cur E (0,0)))(hnc:l.length<=Ei)(hcm:Ei<=maxLen)(hcs:cur.size=Ei*k)[Inhabited<|Fin l.length]
 {d':BG (Fin l.length)}(hdz:d'.size=l.length)(hdr:(d'.toList.map λi=>l[i])=r)(m:Nat)(os:BG Obj):RN (λb=>Value.ownBlock (.slice (some ⟨blk,0,none⟩) l.length Ei)=some b) w H (sortWorldK (λi:Fin l.length=>chunk k xs i) k w blk 0 m d' os) H/\Kk B (sortWorldK (λi:Fin l.length=>chunk k xs i) k w blk 0 m d' os) H E k (lT τ r) (.slice (some ⟨blk,0,none⟩) l.length Ei):=by
 let⟨GZ,KX⟩:=Tm hn ha Az;have hrl:r.length=l.length:=AK;have Hf:=uG (enc:=λi:Fin l.length=>chunk k xs i) (k:=k) (m:=m) (dk:=d') (os:=os) hblk;have L2:(Go.Sort.flatK (λi:Fin l.length=>chunk k xs i) k d').size=l.length*k:=by rw[Go.Sort.size_flatK,hdz]
 have hle:l.length*k<=cur.size:=by rw[hcs];exact LS k hnc
 have OD:=vR (α:=Fin l.length) (d:=Go.Sort.flatK (λi:Fin l.length=>chunk k xs i) k d') (cur:=cur) (by rw[L2];exact hle);refine⟨Tr.Lb (M:=λb=>Value.ownBlock (.slice (some ⟨blk,0,.none⟩) l.length Ei)=some b) ⟨lN,rfl,rfl,rfl,?_,λi hi hne=>Xn hi (λe=>hne (by rw[e];rfl))⟩ sub λb hb=>(hown b hb).1,⟨(Go.Sort.flatK (λi:Fin l.length=>chunk k xs i) k d').toList,?_,?_,hown⟩⟩
 .refine H9.of ?_;show w.drawn<=(sortWorldK _ k w blk 0 m d' os).drawn;unfold sortWorldK Go.Sort.grow Go.Sort.putRowK Go.Sort.putRow Go.Sort.mapBlock Go.Sort.ahead;exact UI _ _
 .have Um:(lT τ r).length=l.length:=by rw[C2,hrl]
  rw[Um];refine⟨by rw[Fv,L2],.inr ⟨blk,Ei,_,rfl,FV _,Hf,hnc,hcm,?_,?_⟩⟩
  .rw[<-hcs];simp[Go.Sort.putCells]
  .grind
 .refine df (by rw[Fv,L2,hrl]) λi hi=>?_
  have hi2:i<d'.size:=A4;rw[o0 (λi=>Tp GZ i.2) hi2];rw[K6 d' i hi2];have e:r[i]=l[d'[i]]:=AK;rw[e];exact KX _ d'[i].2
set_option maxHeartbeats 1000000 in
theorem oH(L:SlLaysF0.n6 P ρ)(aE:∀w,(isAgg<|ρ.t 24).run P w= .ok true w)(zE:∀w,(Go.sizeOf<|ρ.t 24).run P w= .ok k w)(hc:Gq P (ρ.f 6)=true)
 (hn:∀a,(τ a).n=k)(ha:∀a,(τ a).agg=true)(none:∀(p:A9 Addr) (cap:Nat) (fv:AV) (w:AR),Calls P (ρ.f 6) #[.slice p 0 cap,fv] w λe w'=>e= .returned (.tuple #[])/\w'=w)
 (hm:Ia l c=some r):J8 P (ρ.f 6) [] (.buf (ρ.t 24) k<|lT τ l) (.buf (ρ.t 24) k<|lT τ r) [TFn P (λx:A×A=>[τ x.1,τ x.2]) (λx:Int=>[(TI .i64) x]) c] []:=by
 let⟨h1,h2,h3,h4⟩:=YO hm;refine⟨hc,λw H v ps qs sub gl hp hq hs=>?_⟩;have hp:=ZM hp;subst hp;obtain⟨fv,rfl,hfv⟩:=PY hq;obtain⟨g,cap,FD,rfl,RJ,hf⟩:=hfv;let⟨xs,hown,Az,hH⟩:=hs;have hlen:(lT τ l).length=l.length:=C2 ..;rw[hlen] at hown;have Lb:∀b,v.ownBlock=some b->H b= .none:=λb hb=>(hH b hb).1
 by_cases hl0:l=[]
 .subst hl0;have hr:r=[]:=List.Perm.eq_nil h1;subst hr;obtain⟨p,Ei,rfl⟩:∃p Ei,v= .slice p 0 Ei:=by
   rcases hown.2 with⟨hv,_⟩|⟨g,cap,cur,hv,_⟩
   .grind
   .grind
  refine(none p Ei _ w).mono ?_;rintro e w' ⟨rfl,rfl⟩;exact⟨_,rfl,H,(Tr.refl _ _).Lb sub Lb,⟨xs,hown,Az,hH⟩,λb hb=> .inl hb,#[],rfl,rfl⟩
 .have hpos:0<l.length:=UN.2 hl0;obtain⟨blk,Ei,cur,rfl,hblk,hnc,hcm,hcs,htake⟩:∃blk Ei cur,v= .slice (some ⟨blk,0,.none⟩) l.length Ei/\w.heap[blk]? =some (.cells cur (ρ.t 24) (0,0))/\l.length<=Ei/\Ei<=maxLen/\cur.size=Ei*k/\cur.toList.take (l.length*k)=xs:=by
   rcases hown.2 with⟨_,hz⟩|⟨g,cap,cur,hv,_,r⟩
   .omega
   .grind
  haveI:Inhabited (Fin l.length):=⟨⟨0,hpos⟩⟩
  let⟨GZ,KX⟩:=Tm hn ha Az
  let cf:Fin l.length->Fin l.length->Int:=λi j=>(c (l[i],l[j])).getD 0
  have tot:∀i j:Fin l.length,c (l[i],l[j])=some (cf i j):=λi j=>by
   let⟨v,hv⟩:=h3 _ (Lz i.2) _<|Lz j.2
   have hv:c (l[i],l[j])=some v:=hv;show c (l[i],l[j])=some ((c (l[i],l[j])).getD 0);rw[hv];rfl
  have hB:H blk= .none:=Lb blk rfl;have Uw:=Eg.can (D:=DR.strict)<|hf _ _<|tot ⟨0,hpos⟩ ⟨0,hpos⟩
  have hcmp:=xd (P:=P) (off:=0) hn ha Az sub gl hB RJ hf cf tot;have hd:(Array.ofFn λi:Fin l.length=>i).size=l.length:=WN;have main:=AnyQ.slices_SortFunc L k aE zE (λi:Fin l.length=>chunk k xs i) (λi=>Tp GZ i.2)
   (λi u hu=>SG Az u<|UO<|Qp hu) cf (yn hm tot) g cap blk 0 Ei (Array.ofFn λi:Fin l.length=>i) w
   (λargs w=>PC Uw args w) (by rw[hd];exact hcmp) (w9 GZ hblk htake) (lt_of_heap hblk) (by rw[hd];exact h4)
  rw[hd] at main;refine main.mono ?_;rintro e w' ⟨rfl,d',m,os,X2,sA,rfl⟩;let⟨hdz,hdr⟩:=xy hm tot X2 sA;let⟨ht,hr⟩:=akM hn ha (B:=Ah.Oy P w λb=>(AS.buf (ρ.t 24) k<|lT τ l).owns w (.slice (some ⟨blk,0,.none⟩) l.length Ei) b) sub Az hH hblk hnc hcm hcs hdz hdr m os;exact⟨_,rfl,H,ht,hr,λb hb=> .inl hb,#[],rfl,rfl⟩
end
section
open Go.Shelf Go.Sort
variable[D:DR]
variable{n:Nat}{dk:BG (Fin n)}{kp:Nat->Bool}{k m kk blk off:Nat}
structure OE(n:Nat)(kp:Nat->Bool)(m kk:Nat)(dk:BG (Fin n)):Prop where
 size:dk.size=n
 le:kk<m
 low:(dk.toList.take kk).map (·.val)=(List.range m).filter kp
 high:∀j (hj:j<n),m-1<=j->∀h:j<dk.size,dk[j]=⟨j,hj⟩
theorem OE.len(h:OE n kp m kk dk)(hm:m<=n):kk=((List.range m).filter kp).length:=by rw[<-h.low,C2,EK,Fv,h.size];have:=h.le;omega
theorem OE.start(hk:k<n)(hall:∀j,j<k->kp j=true)(hn:kp k=false):OE n kp (k+1) k (Array.ofFn λi:Fin n=>i):=by
 refine⟨AT,A4,?_,λj hj _ h=>by simp⟩;rw[List.range_succ,WW,List.filter_eq_self.2<|λj hj=>hall j<|Ql.1 hj];have e:List.filter kp [k]=[]:=by simp[hn]
 rw[e,K9,Array.toList_ofFn];apply WT;intro i;rw[HL,WX];by_cases hi:i<k
 .rw[if_pos hi,Gs DJ,Gs (by simpa using hi)];simp
 .rw[if_neg hi,List.getElem?_eq_none (by simpa using hi)];rfl
theorem OE.skip(h:OE n kp m kk dk)(hn:kp m=false):OE n kp (m+1) kk dk:=by have:=h.le;refine⟨h.size,A4,?_,λj hj hm=>h.high j hj A4⟩;rw[List.range_succ,WW,<-h.low];simp[hn]
theorem OE.E9(h:OE n kp m kk dk)(hm:m<n)(hn:kp m=true):OE n kp (m+1) (kk+1) (dk.setIfInBounds kk ⟨m,hm⟩):=by
 have h0:=h.le;refine⟨by simp[h.size],A4,?_,λj hj KV h2=>?_⟩
 .rw[List.range_succ,WW,<-h.low];have e:List.filter kp [m]=[m]:=by simp[hn]
  rw[e];have hs:=h.size;have hkk:kk<dk.toList.length:=by rw[Fv,hs];omega
  rw[j6,List.take_succ,List.take_set_of_le<|BQ _,Wb hkk,Ic]
  rfl
 .rw[Array.getElem_setIfInBounds (by simpa using h2),if_neg A4];exact h.high j hj A4 _
theorem aoI{P:CP}{A:Type}{τ:A->Ty}{H:HV}{c:A×A->A9 Bool}(hn:∀a,(τ a).n=k)(ha:∀a,(τ a).agg=true){l:A3 A}{xs:A3 AV}{w:AR}{g:Nat}{cap:BG AV}{FD:A3 Ty}(hxs:Db H (lT τ l) xs)
 (sub:∀r o,H r=some o->w.heap[r]? =some o)(gl:LY P H)(hB:H blk=none)(RJ:Ee H FD cap.toList)
 (hf:∀a r,c a=some r-> @Eg DR.strict P g ([τ a.1,τ a.2]++FD) (.vs [Ay r]))[Inhabited<|Fin l.length](m:Nat)(os:BG Obj)(dk:BG (Fin l.length))(x y:Fin l.length){b:Bool}(hb:c (l[x],l[y])=some b):Calls P g (#[.agg (chunk k xs x).toArray,.agg (chunk k xs y).toArray]++cap) (sortWorldK (λi:Fin l.length=>chunk k xs i) k w blk off m dk os) λe w'=>e= .returned (.bool b)/\∃q os',w'=Go.Sort.grow ((sortWorldK (λi:Fin l.length=>chunk k xs i) k w blk off m dk os).drewN q) os':=by
 let⟨_,hc⟩:=Tm hn ha hxs;have hs:∀r o,H r=some o->(sortWorldK (λi:Fin l.length=>chunk k xs i) k w blk off m dk os).heap[r]? =some o:=λr o h=>by have h1:=sub r o h;rw[Xn (lt_of_heap h1) (λe=>by rw[e,hB] at h;cases h)];exact h1
 have hr:=Eg.run (D:=DR.strict) (hf (l[x],l[y]) _ hb) _ H ([Value.agg (chunk k xs x).toArray,Value.agg (chunk k xs y).toArray]++cap.toList) hs gl<|Ya ⟨_,_,rfl,hc x x.2,_,_,rfl,hc y y.2,rfl⟩ RJ
 have ea:([Value.agg (chunk k xs x).toArray,Value.agg (chunk k xs y).toArray]++cap.toList).toArray= #[Value.agg (chunk k xs x).toArray,Value.agg (chunk k xs y).toArray]++cap:=AT;rw[ea] at hr;refine hr.mono ?_;rintro e w' ⟨v,rfl,hb,H',_,_,hv⟩;have hv:v= .bool b:=hv;subst hv;exact⟨rfl,aal hb⟩
theorem v7{cs:BG AV}:(Builtin.zeroCells cs n).toList.length=n*cs.size:=by simp[Builtin.zeroCells]
theorem af5{cs:BG AV}(h:∀v∈cs.toList,v.oneCell'=true):∀v∈(Builtin.zeroCells cs n).toList,v.oneCell'=true:=by
 intro v hv;unfold Builtin.zeroCells at hv;rw[Array.toList_map,BM] at hv;obtain⟨i,hi,rfl⟩:=hv;have hi:i<n*cs.size:=by simpa using hi
 have hp:0<cs.size:=(M1 cs.size).elim (λe=>by rw[e] at hi;simp at hi) id;have hm:=OS i hp;rw[K6 cs (i%cs.size) hm];exact h _ AT
theorem aeX{P:CP}{W:AR}{S E ty:Ap}{z:AV}{c s:Nat}{F:BG AV}(hS:P.underlying S=some (.slice E))(hz:∀w,(zeroValue E).run P w= .ok z w)(h1:∀v∈z.cells.toList,v.oneCell'=true)(h:Holds id W blk off F)
 (hs:s+n*z.cells.size<=F.size)(hn:0<n):(Builtin.clear_ #[S] ty #[.slice (some ⟨blk,off+s,none⟩) n c]).run P W= .ok (.tuple #[]) (W.setCells blk (off+s) (Builtin.zeroCells z.cells n).toList):=by
 have Ex:=stores_of_holds P h s (Builtin.zeroCells z.cells n).toList (by rw[v7];exact hs)<|af5 h1
 obtain⟨n,rfl⟩:∃m,n=m+1:=⟨n-1,A4⟩;unfold Builtin.clear_;simp[E6,Ey hS,hz,Ex,Result.andThen]
theorem agk[Inhabited<|Fin n]{enc:Fin n->A3 AV}(hk:∀x,(enc x).length=k){i:Nat}(hi:i<dk.size)(x:Fin n):setMany (flatK enc k dk) (i*k) (enc x)=flatK enc k (dk.setIfInBounds i x):=by
 refine ext_get! AT λt ht=>?_
 have ht':t<dk.size*k:=by simpa using ht
 have k0:0<k:=(M1 k).elim (λh=>by subst h;simp at ht') id;rw[get_setMany _ _ _ t (by simpa using ht'),get_flatK _ _ _ t ht',get_flatK _ _ _ t (by simpa using ht'),hk];by_cases a:t/k=i
 .rw[if_pos<|(blk_iff k i t k0).2 a];have m:t-i*k=t%k:=by subst a;rw[Nat.mod_eq_sub_div_mul]
  rw[m,a,K6 (dk.setIfInBounds i x) i (by simpa using hi),Array.getElem_setIfInBounds_self]
 .rw[if_neg<|λh=>a<|(blk_iff k i t k0).1 h];have hd:t/k<dk.size:=Nat.div_lt_of_lt_mul (by rw[MV];exact ht');rw[K6 (dk.setIfInBounds i x) (t/k) (by simpa using hd),K6 dk (t/k) hd,Array.getElem_setIfInBounds_ne _<|λe=>a e.symm]
theorem amM[Inhabited<|Fin n]{enc:Fin n->A3 AV}{w0 W:AR}(h:SWK enc k w0 blk off dk W)(hk:∀x,(enc x).length=k)(hblk:blk<w0.heap.size){i:Nat}(hi:i<dk.size)(x:Fin n):SWK enc k w0 blk off (dk.setIfInBounds i x) (W.setCells blk (off+i*k)<|enc x):=by
 obtain⟨m,os,rfl⟩:=h;refine⟨m,os,?_⟩;have hb:i*k+k<=dk.size*k:=by
  have:=LS k<|show i+1<=dk.size from hi
  rwa [Ke,Lt] at this
 unfold sortWorldK;rw[setCells_grow os blk _ _ _ (by show blk<(putRowK enc k _ blk off dk).heap.size;rw[size_putRowK];exact hblk)]
 congr 1
 unfold putRowK;rw[setCells_putRow _ _ _ _ _ _ (by rw[hk,size_flatK];exact hb),agk hk hi]
end
end Trn
namespace P4
section
open Go.Shelf Go.Lib Go.Sort
set_option maxHeartbeats 4000000 in
set_option maxRecDepth 1000000 in
theorem ai8{P:Program}(F:P.funcs[234]? =some f234)(mixed:P.follows .mixedOrders=true)(t0:P.underlying 0=prog.underlying 0)(t3:P.underlying 3=some (.int .i64))(a3:∀w,(isAgg 3).run P w= .ok false w)(z3:∀w,(Go.sizeOf 3).run P w= .ok 1 w)(v3:∀w,(zeroValue 3).run P w= .ok (.int .i64 0) w)(t4:P.underlying 4=some .bool)(a4:∀w,(isAgg 4).run P w= .ok false w)(z4:∀w,(Go.sizeOf 4).run P w= .ok 1 w)(t129:P.underlying 129=some (.slice 86))(a129:∀w,(isAgg 129).run P w= .ok false w)(z129:∀w,(Go.sizeOf 129).run P w= .ok 1 w)
  {k:Nat}(a86:∀w,(isAgg 86).run P w= .ok true w)(z86:∀w,(Go.sizeOf 86).run P w= .ok k w)(zv:Value)(v86:∀w,(zeroValue 86).run P w= .ok zv w)(hzs:zv.cells.size=k)(hz1:∀v∈zv.cells.toList,v.oneCell'=true){n:Nat}[Inhabited<|Fin n](enc:Fin n->List Value)(hk:∀x,(enc x).length=k)(h1:∀x,∀v∈enc x,v.oneCell'=true)(g:Nat)(cb:Array Value)(kp:Nat->Bool)(k0:kp 0=true)(blk off cap:Nat)(w:World)
  (eg:∀args w,(callFunc g args).run P w= .ok (.enter g args) w)(hH:HoldsK enc k w blk off (Array.ofFn λi:Fin n=>i))(hblk:blk<w.heap.size)(hcap:n<=cap)(hsz:n<=9223372036854775807)
  (hcmp:∀(m:Nat) (os:Array Obj) (dk:Array (Fin n)) (j:Nat) (hj:j+1<n),Calls P g (#[.agg (enc ⟨j+1,hj⟩).toArray,.agg (enc ⟨j,Nat.lt_of_succ_lt hj⟩).toArray]++cb) (sortWorldK enc k w blk off m dk os) λe w'=>e= .returned (.bool<| !kp (j+1))/\∃q os',w'=grow ((sortWorldK enc k w blk off m dk os).drewN q) os'):Calls P 234 #[.slice (some ⟨blk,off,none⟩) n cap,.func (.func g) #[] cb] w λe w'=>∃kk dk zs W,e= .returned (.slice (some ⟨blk,off,none⟩) kk cap)/\kk=((List.range n).filter kp).length/\SWK enc k w blk off dk W/\dk.size=n/\(dk.toList.take kk).map (·.val)=(List.range n).filter kp/\w'=W.setCells blk (off+kk*k) zs/\zs.length<=(n-kk)*k:=by
 have kz:∀j,j<1->kp j=true:=λj hj=>by obtain rfl:j=0:=Trn.A4;exact k0
 have hpos:0<n:=Fin.pos default;have hd0:(Array.ofFn λi:Fin n=>i).size=n:=Array.size_ofFn;have S0:Aside (SWK enc k w blk off (Array.ofFn λi:Fin n=>i) w):=SWK.start hH;have RR:Aside (RowK enc k w blk off (Array.ofFn λi:Fin n=>i)):=⟨hk,h1,hH,hblk⟩;have CM:Aside (∀(m:Nat) (os:Array Obj) (dk:Array (Fin n)) (j:Nat) (hj:j+1<n),Calls P g (#[.agg (enc ⟨j+1,hj⟩).toArray,.agg (enc ⟨j,Nat.lt_of_succ_lt hj⟩).toArray]++cb) (sortWorldK enc k w blk off m dk os) λe w'=>e= .returned (.bool<| !kp (j+1))/\∃q os',w'=grow ((sortWorldK enc k w blk off m dk os).drewN q) os'):=hcmp;clear hH hk h1 hcmp;have all:∀W,SWK enc k w blk off (Array.ofFn λi:Fin n=>i) W->(∀j,j<n->kp j=true)->∃kk dk zs W',(Ending.returned<| .slice (some ⟨blk,off,none⟩) n cap)= .returned (.slice (some ⟨blk,off,none⟩) kk cap)/\kk=((List.range n).filter kp).length/\SWK enc k w blk off dk W'/\dk.size=n/\(dk.toList.take kk).map (·.val)=(List.range n).filter kp/\W=W'.setCells blk (off+kk*k) zs/\zs.length<=(n-kk)*k:=λW hW hall=>by
  have e:(List.range n).filter kp=List.range n:=List.filter_eq_self.2 λj hj=>hall j<|List.mem_range.1 hj
  refine⟨n,_,[],W,rfl,by rw[e];simp,hW,hd0,?_,rfl,Nat.zero_le _⟩;rw[e,Array.toList_ofFn];apply List.ext_getElem
  .simp
  .intro i h1 h2;simp
 have ALL:Aside (∀W,SWK enc k w blk off (Array.ofFn λi:Fin n=>i) W->(∀j,j<n->kp j=true)->∃kk dk zs W',(Ending.returned<| .slice (some ⟨blk,off,none⟩) n cap)= .returned (.slice (some ⟨blk,off,none⟩) kk cap)/\kk=((List.range n).filter kp).length/\SWK enc k w blk off dk W'/\dk.size=n/\(dk.toList.take kk).map (·.val)=(List.range n).filter kp/\W=W'.setCells blk (off+kk*k) zs/\zs.length<=(n-kk)*k):=all;clear all;by_cases h2:n<2
 .go_enter F,ntmps234
  go_wp2
  go_ret
  exact ALL.out w S0.out λj hj=>kz j Trn.A4
 .go_enter F,ntmps234
  go_wp2
  go_loopg [5] n (λgg s5 wr=>∃kx:Nat,1<=kx/\kx<=n/\n-kx<=gg/\s5= .int .i64 kx/\Aside (SWK enc k w blk off (Array.ofFn λi:Fin n=>i) wr)/\Aside (∀j,j<kx->kp j=true))
  case atStart=>exact⟨1,Nat.le_refl _,Trn.A4,Trn.A4,by first|rfl|go_num,S0,kz⟩
  case round=>
   clear S0;obtain⟨kx,hk1,hkn,hg,rfl,SW,HA⟩:=hrel;by_cases hlt:kx<n
   .obtain⟨j,rfl⟩:∃j,kx=j+1:=⟨kx-1,Trn.A4⟩;have jz:(j:Int)+1<(n:Int):=Trn.A4;have jz1:(j:Int)<(n:Int):=Trn.A4;have p0:(0:Int)<=(j:Int)+1:=Trn.A4;have e0:((j:Int)+1).toNat=j+1:=Trn.A4;have hwp:IntKind.i64.wrap (j:Int)=(j:Int):=by rw[IntKind.wrap_i64];omega
    obtain⟨cx,hcx⟩:∃c,(enc ⟨j+1,hlt⟩).toArray=c:=⟨_,rfl⟩;obtain⟨cy,hcy⟩:∃c,(enc ⟨j,Nat.lt_of_succ_lt hlt⟩).toArray=c:=⟨_,rfl⟩;have lj:∀n' os',Sem.run P (loadCellsFrom ⟨blk,off+(j+1)*k,none⟩ 0 k #[]) (grow (wr.drewN n') os')= .ok cx (grow (wr.drewN n') os'):=λn' os'=>by have:=SW.out.ld RR.out (by rw[hd0]) P (j+1) (by rw[hd0];exact hlt) n' os';rw[this,<-hcx,getElem!_pos _ _ (by rw[hd0];exact hlt)];simp
    have lp:∀n' os',Sem.run P (loadCellsFrom ⟨blk,off+j*k,none⟩ 0 k #[]) (grow (wr.drewN n') os')= .ok cy (grow (wr.drewN n') os'):=λn' os'=>by have:=SW.out.ld RR.out (by rw[hd0]) P j (by rw[hd0];omega) n' os';rw[this,<-hcy,getElem!_pos _ _ (by rw[hd0];omega)];simp
    have hcg:∀n' os',Calls P g (#[.agg cx,.agg cy]++cb) (grow (wr.drewN n') os') λe w'=>e= .returned (.bool<| !kp (j+1))/\∃q os'',w'=grow ((grow (wr.drewN n') os').drewN q) os'':=λn' os'=>by let⟨m,os0,hw⟩:=SW.out.grown n' os';rw[hw,<-hcx,<-hcy];exact CM.out m os0 _ j hlt
    cases hkp:kp (j+1) with
    |true=>
     rw[hkp,Bool.not_true] at hcg
     go_wp2_with fail
     go_quiet_grown (first|(go_at_fn g;refine Calls.grown_of<|hcg _ _))
     go_wp2
     go_roundg (n-(j+1+1))
     case measure=>omega
     case rel=>exact⟨j+1+1,Trn.A4,Trn.A4,Nat.le_refl _,by first|rfl|go_num,SW.out.grown nq osq,λi hi=>by
      rcases Nat.lt_or_ge i (j+1) with h|h
      .exact HA.out i h
      .have:i=j+1:=Trn.A4;rw[this];exact hkp⟩
    |false=>
     rw[hkp,Bool.not_false] at hcg
     go_wp2_with fail
     go_quiet_grown (first|(go_at_fn g;refine Calls.grown_of<|hcg _ _))
     have SW1:Aside (SWK enc k w blk off (Array.ofFn λi:Fin n=>i)<|grow (wr.drewN nq) osq):=SW.out.grown nq osq;clear lj lp hcg
     generalize grow (wr.drewN nq) osq=wq at SW1⊢
     go_wp2
     go_loopg [5,7] n (λgg s5 s7 wr=>∃(kk k2:Nat) (dk:Array (Fin n)),s5= .int .i64 kk/\s7= .int .i64 k2/\1<=k2/\j+1+k2<=n/\n-(j+1+k2)<=gg/\Aside (SWK enc k w blk off dk wr)/\Aside (Trn.OE n kp (j+1+k2) kk dk)/\kk<j+1+k2)
     case atStart=>exact⟨j+1,1,_,by first|rfl|go_num,rfl,Nat.le_refl _,Trn.A4,Trn.A4,SW1,Trn.OE.start hlt HA.out hkp,Trn.A4⟩
     case round=>
      clear SW1;obtain⟨kk,k2,dk,rfl,rfl,h21,hle,hg2,SW2,CI,hkk⟩:=hrel;have hdk:dk.size=n:=CI.out.size;by_cases hlt2:j+1+k2<n
      .obtain⟨i,rfl⟩:∃i,k2=i+1:=⟨k2-1,Trn.A4⟩;have iz:(i:Int)+1<((n-(j+1):Nat):Int):=Trn.A4;have iz1:(i:Int)<((n-(j+1):Nat):Int):=Trn.A4;have q0:(0:Int)<=(i:Int)+1:=Trn.A4;have f0:((i:Int)+1).toNat=i+1:=Trn.A4;have hwq:IntKind.i64.wrap (i:Int)=(i:Int):=by rw[IntKind.wrap_i64];omega
       have ea:off+(j+1)*k+(i+1)*k=off+(j+1+(i+1))*k:=by rw[Nat.add_assoc,<-Nat.add_mul]
       have eb:off+(j+1)*k+i*k=off+(j+1+i)*k:=by rw[Nat.add_assoc,<-Nat.add_mul]
       have ga:dk[j+1+(i+1)]! =⟨j+1+(i+1),hlt2⟩:=by rw[getElem!_pos dk _ Trn.A4];exact CI.out.high _ hlt2 Trn.A4 _
       have gb:dk[j+1+i]! =⟨j+1+i,Nat.lt_of_succ_lt hlt2⟩:=by rw[getElem!_pos dk _ Trn.A4];exact CI.out.high (j+1+i) (Nat.lt_of_succ_lt hlt2) (show j+1+(i+1)-1<=j+1+i by omega) _
       obtain⟨cu,hcu⟩:∃c,enc ⟨j+1+(i+1),hlt2⟩=c:=⟨_,rfl⟩;obtain⟨cv,hcv⟩:∃c,enc ⟨j+1+i,Nat.lt_of_succ_lt hlt2⟩=c:=⟨_,rfl⟩;have lu:∀n' os',Sem.run P (loadCellsFrom ⟨blk,off+(j+1)*k+(i+1)*k,none⟩ 0 k #[]) (grow (wr.drewN n') os')= .ok cu.toArray (grow (wr.drewN n') os'):=λn' os'=>by have:=SW2.out.ld RR.out (by rw[hd0];exact hdk) P (j+1+(i+1)) Trn.A4 n' os';rw[ea,this,ga,hcu]
       have lv:∀n' os',Sem.run P (loadCellsFrom ⟨blk,off+(j+1)*k+i*k,none⟩ 0 k #[]) (grow (wr.drewN n') os')= .ok cv.toArray (grow (wr.drewN n') os'):=λn' os'=>by have:=SW2.out.ld RR.out (by rw[hd0];exact hdk) P (j+1+i) Trn.A4 n' os';rw[eb,this,gb,hcv]
       have hcg:∀n' os',Calls P g (#[.agg cu.toArray,.agg cv.toArray]++cb) (grow (wr.drewN n') os') λe w'=>e= .returned (.bool<| !kp (j+1+(i+1)))/\∃q os'',w'=grow ((grow (wr.drewN n') os').drewN q) os'':=λn' os'=>by let⟨m,os0,hw⟩:=SW2.out.grown n' os';rw[hw,<-hcu,<-hcv];exact CM.out m os0 dk (j+1+i) hlt2
       have GU:Aside (dk[j+1+(i+1)]! =⟨j+1+(i+1),hlt2⟩/\enc ⟨j+1+(i+1),hlt2⟩=cu):=⟨ga,hcu⟩;clear ea eb ga gb hcu hcv;cases hkq:kp (j+1+(i+1)) with
       |true=>
        rw[hkq,Bool.not_true] at hcg
        go_wp2_with fail
        go_quiet_grown (first|(go_at_fn g;refine Calls.grown_of<|hcg _ _))
        have SW3:Aside (SWK enc k w blk off dk<|grow (wr.drewN nq) osq):=SW2.out.grown nq osq;have l3:=lu nq osq;clear lu lv hcg SW2
        generalize grow (wr.drewN nq) osq=wq at SW3 l3⊢
        have n3:cu.length=k:=by rw[<-GU.out.2];exact RR.out.hk _
        have s3:Sem.run P (storeCells ⟨blk,off+kk*k,none⟩ cu 0) wq= .ok () (wq.setCells blk (off+kk*k) cu):=by rw[<-GU.out.2];exact stores_of_holds P (SW3.out.holds RR.out.hblk RR.out.hH (by rw[hdk,hd0])) (kk*k) _ (by rw[RR.out.hk,size_flatK];exact rowK_bnd dk k kk Trn.A4)<|RR.out.h1 _
        have kz1:(kk:Int)<(n:Int):=Trn.A4
        go_wp2
        go_roundg (n-(j+1+(i+1+1)))
        case measure=>omega
        case rel=>exact⟨kk+1,i+1+1,dk.setIfInBounds kk ⟨j+1+(i+1),hlt2⟩,by first|rfl|go_num,by first|rfl|go_num,Trn.A4,Trn.A4,Nat.le_refl _,by show SWK _ _ _ _ _ _ _;rw[<-GU.out.2];exact Trn.amM SW3.out RR.out.hk RR.out.hblk Trn.A4 _,CI.out.E9 hlt2 hkq,Trn.A4⟩
       |false=>
        rw[hkq,Bool.not_false] at hcg
        go_wp2_with fail
        go_quiet_grown (first|(go_at_fn g;refine Calls.grown_of<|hcg _ _))
        have SW3:Aside (SWK enc k w blk off dk<|grow (wr.drewN nq) osq):=SW2.out.grown nq osq;clear lu lv hcg SW2
        generalize grow (wr.drewN nq) osq=wq at SW3⊢
        go_wp2
        go_roundg (n-(j+1+(i+1+1)))
        case measure=>omega
        case rel=>exact⟨kk,i+1+1,dk,rfl,by first|rfl|go_num,Trn.A4,Trn.A4,Nat.le_refl _,SW3,CI.out.skip hkq,Trn.A4⟩
      .have hend:j+1+k2=n:=Trn.A4;have hcl:∀ty,(Builtin.clear_ #[129] ty #[.slice (some ⟨blk,off+kk*k,none⟩) (n-kk)<|cap-kk]).run P wr= .ok (.tuple #[]) (wr.setCells blk (off+kk*k) (Builtin.zeroCells zv.cells<|n-kk).toList):=λty=>Trn.aeX t129 v86 hz1 (SW2.out.holds RR.out.hblk RR.out.hH (by rw[hdk,hd0])) (by rw[hzs,size_flatK,hdk,<-Nat.add_mul];exact Nat.mul_le_mul_right k Trn.A4) Trn.A4
       have kz1:(kk:Int)<=(n:Int):=Trn.A4;have hzl:(Builtin.zeroCells zv.cells<|n-kk).toList.length<=(n-kk)*k:=by rw[Trn.v7,hzs];exact Nat.le_refl _
       generalize (Builtin.zeroCells zv.cells<|n-kk).toList=zl at hcl hzl
       clear v86 hzs hz1
       go_wp2
       go_ret
       have C:=CI.out;rw[hend] at C;exact⟨kk,dk,zl,wr,rfl,C.len<|Nat.le_refl _,SW2.out,hdk,C.low,rfl,hzl⟩
   .have:kx=n:=Trn.A4;subst this
    go_wp2
    go_ret
    exact ALL.out wr SW.out HA.out
set_option maxHeartbeats 4000000 in
set_option maxRecDepth 1000000 in
theorem ai9(p:Option Addr)(m:Nat)(hm:m<2)(cap:Nat)(fv:Value)(w:World):Calls prog 234 #[.slice p m cap,fv] w λe w'=>e= .returned (.slice p m cap)/\w'=w:=by
 go_enter func234,ntmps234
 go_wp2
 go_ret
 exact⟨rfl,rfl⟩
end
end P4
namespace Trn
section
open Go.Shelf Go.Sort
variable[D:DR]
variable{α:Type}{blk:Nat}
def flags{α:Type}(l:A3 α)(bs:A3 Bool):A3 α:=((l.zip bs).filter (·.2)).map (·.1)
theorem xe{α:Type}{e:α->α->A9 Bool}:∀{l:A3 α} {x:α} {r:A3 α},X5 e x l=some r->∃bs:A3 Bool,bs.length=l.length/\(∀j (hj:j<l.length) (h2:j<(x::l).length) (h3:j<bs.length),e l[j] (x::l)[j]=some (!bs[j]))/\r=flags l bs
 |[],x,r,h=>by cases h;exact⟨[],rfl,λj hj=>absurd hj<|Nat.not_lt_zero _,rfl⟩
 |y::l,x,r,h=>by
  let⟨b,hb,h⟩:=Nx h;let⟨r',hr,h⟩:=Nx h;let⟨bs,h1,h2,h3⟩:=xe hr;have h:=Ez h;refine⟨(!b)::bs,by simp[h1],λj hj hj2 hj3=>?_,?_⟩
  .grind
  .rw[<-h,h3];cases b<;>simp[flags]
theorem wg{α:Type}:∀{l:A3 α} {bs:A3 Bool},bs.length=l.length->((List.range l.length).filter λj=>bs.getD j true).map (λj=>l[j]?)=(flags l bs).map some
 |[],[],_=>rfl|[],_::_,h=>by simp at h|_::_,[],h=>by simp at h
 |x::l,b::bs,h=>by
  have ih:=wg (l:=l) (bs:=bs) (by simpa using h);rw[E2,List.range_succ_eq_map,Za,List.filter_map];have e:(λj=>(b::bs).getD j true)∘Nat.succ=λj=>bs.getD j true:=by funext j;simp
  rw[e];have e2:(((List.range l.length).filter λj=>bs.getD j true).map Nat.succ).map (λj=>(x::l)[j]?)=(flags l bs).map some:=by rw[<-ih,Nk];apply iZ;intro j _;simp
  cases b
  .simpa[flags] using e2
  .simpa[flags] using e2
theorem afi{l r:A3 α}{c:α×α->A9 Bool}(h:Yn l c=some r):∃kp:Nat->Bool,kp 0=true/\(∀j (hj:j+1<l.length),c (l[j+1],l[j])=some (!kp (j+1)))/\((List.range l.length).filter kp).map (λj=>l[j]?)=r.map some:=by
 cases l with
 |nil=>cases h;exact⟨λ_=>true,rfl,λj hj=>absurd hj<|Nat.not_lt_zero _,rfl⟩
 |cons x l=>
  let⟨r',hr,h⟩:=Nx h;have h:=Ez h;let⟨bs,h1,h2,h3⟩:=xe hr;refine⟨λj=>(true::bs).getD j true,rfl,λj hj=>?_,?_⟩
  .grind
  .rw[wg (l:=x::l) (bs:=true::bs) (by simp[h1]),<-h,h3];simp[flags]
theorem aeE{W:AR}{o:Nat}{cur:BG AV}{E:Ap}{fr:Nat×Nat}{v:AV}(h:W.heap[blk]? =some (.cells cur E fr)):(W.setCell ⟨blk,o,none⟩ v).heap[blk]? =some (.cells (cur.setIfInBounds o v) E fr):=by simp[World.setCell,UP,h]
theorem uO{blk:Nat}{E:Ap}{fr:Nat×Nat}:∀{vs:A3 AV} {W:AR} {o:Nat} {cur:BG AV},W.heap[blk]? =some (.cells cur E fr)->(W.setCells blk o vs).heap[blk]? =some (.cells (setMany cur o vs) E fr)
 |[],_,_,_,h=>h|v::vs,W,o,cur,h=>uO (vs:=vs)<|aeE h
theorem wA{blk:Nat}:∀{vs:A3 AV} {W:AR} {o:Nat},Ef W (W.setCells blk o vs) (some blk)
 |[],W,o=>⟨⟨rfl,rfl,rfl,BQ _,λ_ _ _=>rfl⟩,BQ _⟩
 |v::vs,W,o=>by have h:=wA (blk:=blk) (vs:=vs) (W:=W.setCell ⟨blk,o,none⟩ v) (o:=o+1);refine⟨⟨h.os,h.tape,h.output,Ch (by simp[World.setCell]) h.size,λk hk hne=>?_⟩,h.drawn⟩;have h1:=h.block k (by simpa[World.setCell] using hk) hne;show(World.setCells _ blk (o+1) vs).heap[k]? =_;rw[h1];exact Below.heap_setCell _ _ _ _ (λe=>hne (by rw[e]))
theorem vj{m:Nat}:∀{vs:A3 AV} {F:BG AV} {s:Nat},m<=s->(setMany F s vs).toList.take m=F.toList.take m
 |[],_,_,_=>rfl
 |v::vs,F,s,h=>by rw[setMany,vj (vs:=vs) A4,j6,List.take_set_of_le h]
theorem af1[Inhabited α]{enc:α->A3 AV}{k:Nat}{w:AR}{m:Nat}{dk:BG α}{os:BG Obj}:Ef w (sortWorldK enc k w blk 0 m dk os) (some blk):=by refine⟨⟨rfl,rfl,rfl,lN,λi hi hne=>Xn hi (λe=>hne (by rw[e]))⟩,?_⟩;refine H9.of ?_;show w.drawn<=(sortWorldK _ k w blk 0 m dk os).drawn;unfold sortWorldK Go.Sort.grow Go.Sort.putRowK Go.Sort.putRow Go.Sort.mapBlock Go.Sort.ahead;exact UI _ _
theorem Ef.trans{w w1 w2:AR}{row:A9 Nat}(h:Ef w w1 row)(k:Ef w1 w2 row):Ef w w2 row:=⟨⟨k.os.trans h.os,k.tape.trans h.tape,k.output.trans h.output,Ch h.size k.size,λi hi hne=>(k.block i (KA hi h.size) hne).trans<|h.block i hi hne⟩,Ch h.drawn k.drawn⟩
end
section
open Go.Shelf Go.Sort
variable[D:DR]
variable{P:Program}{A:Type}{τ:A->Ty}{k:Nat}{c:A×A->Option Bool}{f E:Nat}
theorem agQ(hc:Gq P f=true)(hn:∀a,(τ a).n=k)(ha:∀a,(τ a).agg=true)
  (sB:∀(p:A9 Addr) (m:Nat) (hm:m<2) (cap:Nat) (fv:AV) (w:AR),Calls P f #[.slice p m cap,fv] w λe w'=>e= .returned (.slice p m cap)/\w'=w)
  (arE:∀{n:Nat} [Inhabited<|Fin n] (enc:Fin n->A3 AV) (hk:∀x,(enc x).length=k) (h1:∀x,∀v∈enc x,v.oneCell'=true) (g:Nat) (cb:BG AV) (kp:Nat->Bool) (k0:kp 0=true) (blk off cap:Nat) (w:AR)
   (eg:∀args w,(callFunc g args).run P w= .ok (.enter g args) w) (hH:HoldsK enc k w blk off (Array.ofFn λi:Fin n=>i)) (hblk:blk<w.heap.size) (hcap:n<=cap) (hsz:n<=9223372036854775807)
   (hcmp:∀(m:Nat) (os:BG Obj) (dk:BG (Fin n)) (j:Nat) (hj:j+1<n),Calls P g (#[.agg (enc ⟨j+1,hj⟩).toArray,.agg (enc ⟨j,Nat.lt_of_succ_lt hj⟩).toArray]++cb) (sortWorldK enc k w blk off m dk os) λe w'=>e= .returned (.bool<| !kp (j+1))/\∃q os',w'=Go.Sort.grow ((sortWorldK enc k w blk off m dk os).drewN q) os'),Calls P f #[.slice (some ⟨blk,off,none⟩) n cap,.func (.func g) #[] cb] w λe w'=>∃kk dk zs W,e= .returned (.slice (some ⟨blk,off,none⟩) kk cap)/\kk=((List.range n).filter kp).length/\SWK enc k w blk off dk W/\dk.size=n/\(dk.toList.take kk).map (·.val)=(List.range n).filter kp/\w'=W.setCells blk (off+kk*k) zs/\zs.length<=(n-kk)*k)
  {l r:A3 A}(hm:Yn l c=some r):jH P f E k (lT τ l) [TFn P (λx:A×A=>[τ x.1,τ x.2]) (λx:Bool=>[Ay x]) c] (lT τ r):=by
 let⟨kp,hk0,hkp,hkr⟩:=afi hm;refine⟨hc,λw H v xs vs sub gl hown Az hH hvs=>?_⟩;obtain⟨fv,rfl,hfv⟩:=PY hvs;obtain⟨g,cap,FD,rfl,RJ,hf⟩:=hfv;have hlen:(lT τ l).length=l.length:=C2 ..;rw[hlen] at hown;by_cases hl0:l.length<2
 .have hr:r=l:=by match l,hl0 with|[],_=>cases hm;rfl|[x],_=>cases hm;rfl|a::b::t,h=>simp[E2] at h;omega
  subst hr;obtain⟨p,Ei,rfl⟩:∃p Ei,v= .slice p r.length Ei:=by
   rcases hown.2 with⟨hv,h0⟩|⟨g,cap,cur,hv,_⟩
   .grind
   .grind
  refine(sB p r.length hl0 Ei _ w).mono ?_;rintro e w' ⟨rfl,rfl⟩;exact⟨_,rfl,⟨⟨rfl,rfl,rfl,BQ _,λ_ _ _=>rfl⟩,BQ _⟩,xs,by rw[hlen];exact hown,Az,λb hb=>hb⟩
 .have hpos:0<l.length:=A4;obtain⟨blk,Ei,cur,rfl,hblk,hnc,hcm,hcs,htake⟩:∃blk Ei cur,v= .slice (some ⟨blk,0,.none⟩) l.length Ei/\w.heap[blk]? =some (.cells cur E (0,0))/\l.length<=Ei/\Ei<=maxLen/\cur.size=Ei*k/\cur.toList.take (l.length*k)=xs:=by
   rcases hown.2 with⟨_,hz⟩|⟨g,cap,cur,hv,_,r⟩
   .omega
   .grind
  haveI:Inhabited (Fin l.length):=⟨⟨0,hpos⟩⟩
  let⟨GZ,KX⟩:=Tm hn ha Az;have hB:H blk= .none:=hH blk rfl;have Uw:∀j (hj:j+1<l.length),Gq P g=true:=λj hj=>Eg.can (D:=DR.strict)<|hf _ _<|hkp j hj
  have main:=arE (λi:Fin l.length=>chunk k xs i) (λi=>Tp GZ i.2) (λi u hu=>SG Az u<|UO<|Qp hu) g cap kp hk0 blk 0 Ei w
   (λargs w=>PC (Uw 0 A4) args w) (w9 GZ hblk htake) (lt_of_heap hblk) hnc (Ch hnc hcm)
   (λm os dk j hj=>aoI (off:=0) hn ha Az sub gl hB RJ hf m os dk ⟨j+1,hj⟩ ⟨j,Nat.lt_of_succ_lt hj⟩<|hkp j hj)
  refine main.mono ?_;rintro e w' ⟨kk,dk,zs,W,rfl,hkk,⟨m,os,rfl⟩,hdk,XI,rfl,hzs⟩;have hlr:(dk.toList.take kk).map (λi=>l[i])=r:=by
   have h1:((dk.toList.take kk).map λi=>l[i]).map some=r.map some:=by rw[<-hkr,<-XI,Nk,Nk];apply iZ;intro i _;simp
   exact(List.map_inj_right<|λa b h=>Ez h).1 h1
  have Ju:kk<=l.length:=AK;have hrk:r.length=kk:=AK;have L2:(flatK (λi:Fin l.length=>chunk k xs i) k dk).size=l.length*k:=by rw[size_flatK,hdk]
  have hle:l.length*k<=cur.size:=AK;have hkm:kk*k<=l.length*k:=LS k Ju;have Hf:=uO (vs:=zs) (o:=0+kk*k)<|uG (enc:=λi:Fin l.length=>chunk k xs i) (k:=k) (m:=m) (dk:=dk) (os:=os) hblk
  have OD:=vR (α:=Fin l.length) (d:=flatK (λi:Fin l.length=>chunk k xs i) k dk) (cur:=cur) (by rw[L2];exact hle);rw[L2] at OD;refine⟨_,rfl,af1.trans wA,(flatK (λi:Fin l.length=>chunk k xs i) k dk).toList.take<|kk*k,?_,?_,λb hb=>hb⟩
  .rw[C2,hrk];refine⟨by rw[EK,Fv,L2];exact EZ hkm,.inr ⟨blk,Ei,_,rfl,FV _,Hf,A4,hcm,?_,?_⟩⟩
   .rw[size_setMany,<-hcs];simp[Go.Sort.putCells]
   .rw[vj A4,<-OD,OV,EZ hkm]
  .refine df (by rw[EK,Fv,L2,hrk];exact EZ hkm) λi hi=>?_
   have hi2:i<dk.size:=A4;have ec:chunk k ((flatK (λi:Fin l.length=>chunk k xs i) k dk).toList.take<|kk*k) i=chunk k (flatK (λi:Fin l.length=>chunk k xs i) k dk).toList i:=by
    have hb:i*k+k<=kk*k:=by have:=LS k (show i+1<=kk by omega);rwa [Ke,Lt] at this
    unfold chunk;rw[MX,OV,EZ (by rw[Nat.le_sub_iff_add_le A4];omega)]
   rw[ec,o0 (λi=>Tp GZ i.2) hi2,K6 dk i hi2];have e:r[i]=l[dk[i]]:=AK;rw[e];exact KX _ dk[i].2
end
section
variable{x:Int}{l:A3 Int}{y:Int}{n:Nat}{r:Int×A3 Int}{q:Int}{s:Nat}{ρ:Type}{R:ρ->Prop}{a:A3 Int}{α:Type}{b:A3 Int}{y1 y0 N d z:Int}{m k:Nat}{K:α->A9 ρ}{X Y u0 v0 v1:Int}{w:A3 Int}{P UL VL U2:Int}
def Yd{ρ:Type}(R:ρ->Prop)(o:A9 ρ):Prop:=∃r,o=some r/\R r
def AW{x:ρ}(h:R x):Yd R (some x):=⟨x,rfl,h⟩
def A5{e:A9 α}{x:α}(h:e=some x)(k:Yd R (K x)):Yd R (Trn.bd e K):=by subst h;exact k
def HG{o:A9 α}{r:α}(h:Yd (λx=>x=r) o):o=some r:=by obtain⟨x,e,rfl⟩:=h;exact e
theorem Au{S:α->Prop}{e:A9 α}(h:Yd S e)(k:∀x,S x->Yd R (K x)):Yd R (Trn.bd e K):=by grind [Yd,bd]
theorem Ab{b:Bool}{x y:A9 ρ}(hx:b=true->Yd R x)(hy:b=false->Yd R y):Yd R (cond b x y):=by grind
def Yd.gC{ρ:Type}{R:ρ->Prop}{b:Bool}{x:A9 ρ}(hb:b=true)(hx:Yd R x):Yd R (Trn.gC b x):=by subst hb;exact hx
def GR{g:Bool}{d:α}{e:A9 α}(h1:g=true->∃x,e=some x/\Yd R (K x))(h2:g=false->Yd R (K d)):Yd R (Trn.Ax g d e K):=by
 cases g
 .exact h2 rfl
 .obtain⟨x,rfl,h⟩:=h1 rfl;exact h
def DZ(I:α->Prop){E:(α->A9 ρ)->A9 ρ}(hK:∀s,I s->Yd R (K s))(hE:∀k,(∀s,I s->Yd R (k s))->Yd R (E k)):Yd R (Trn.jn K E):=hE K hK
def ET{σ ρ:Type}{R:ρ->Prop}{B:(σ->A9 ρ)->σ->A9 ρ}(I:σ->Prop)(μ:σ->Nat)(h:∀next s,I s->(∀s',I s'->μ s'<μ s->Yd R (next s'))->Yd R (B next s)):∀(F:Nat) (s:σ),I s->μ s<F->Yd R (Trn.lp F B s)
 |0,s,_,h=>by omega|F+1,s,hi,hm=>h _ s hi λs' hi' KV=>ET I μ h F s' hi' A4
theorem Yd.imp{S:ρ->Prop}{o:A9 ρ}(h:Yd R o)(k:∀r,R r->S r):Yd S o:=by grind [Yd]
def EL{n:Int}(h:DW n):AG n=some n:=by
 unfold DW at h;unfold AG IL;rw[B9 h.1,B9 h.2]
 rfl
def BH{n:Int}(h: -9223372036854775808<=n/\n<=9223372036854775807:=by omega):AG n=some n:=EL h
theorem UU{i:Int}(h0:0<=i)(h1:i<l.length):AB l i=some (l.getD i.toNat 0):=by grind [AB]
def Bm(h:n<l.length):AB l (n:Int)=some (l.getD n 0):=by show l[n]? =_;simp[h]
theorem Py{b:Nat}{n:Int}{z:α}(h0:0<=n)(h1:b*n<=140737488355328)(hb:1<=b):mk_ b n z=some (List.replicate n.toNat z):=by induction b<;>grind [mk_]
theorem EC{l:A3 α}{lo hi:Int}(h0:0<=lo)(h1:lo<=hi)(h2:hi<=l.length):C5 l lo hi=some ((l.take hi.toNat).drop lo.toNat):=by grind [C5]
theorem aoh{k:IntKind}(h:0<=y):Mn k x y=some (x.fdiv<|2^(min y.toNat k.bits)):=by grind [Mn]
theorem aoi{k:IntKind}(h:0<=y):Mo k x y=some (k.wrap<|x*2^(min y.toNat k.bits)):=by grind [Mo]
abbrev BB:Int:=18446744073709551616
def B3(n:Nat):Int:=BB^n
def Yv:B3 0=1:=rfl
def JX(n:Nat):B3 (n+1)=BB*B3 n:=by unfold B3;rw[Int.pow_succ,FM]
def Ln:∀n,0<B3 n
 |0=>by rw[Yv];omega|n+1=>by rw[JX];have:=Ln n;unfold BB;omega
theorem gY(m n:Nat):B3 (m+n)=B3 m*B3 n:=by grind [B3]
def Na(x:Int)(l:A3 Int):AM (x::l)=x+BB*AM l:=rfl
def Vb:∀(l m:A3 Int),AM (l++m)=AM l+B3 l.length*AM m
 |[],m=>by simp[AM,Yv]
 |x::l,m=>by rw[Se,Na,Na,Vb l m,E2,JX,Dc,FW];omega
def ZK:okW []:=by intro x h;cases h
theorem PV:okW (x::l)↔(0<=x/\x<BB)/\okW l:=by simp_all [okW,BB]
theorem xP{m:A3 Int}:okW (l++m)↔okW l/\okW m:=by grind [okW]
theorem MP(h:okW l)(n:Nat):okW (l.take n):=by grind [okW]
theorem SF(h:okW l)(n:Nat):okW (l.drop n):=by grind [okW]
theorem G3(h:okW l)(n:Nat):0<=l.getD n 0/\l.getD n 0<BB:=by
 by_cases hn:n<l.length
 .have:l.getD n 0=l[n]:=by simp[JB,hn]
  rw[this];exact h _<|Lz hn
 .grind
theorem VS(n:Nat):okW (List.replicate n 0):=by grind [okW]
theorem Kd(h:okW l)(n:Nat)(hx:0<=x/\x<BB):okW (l.set n x):=by(simp_all [okW,BB]<;>grind)
def lY:∀n,AM (List.replicate n 0)=0
 |0=>rfl|n+1=>by rw[List.replicate_succ,Na,lY n];omega
def Gp:∀{l:A3 Int},okW l->0<=AM l/\AM l<B3 l.length
 |[],_=>by simp[AM,Yv]
 |x::l,h=>by rw[PV] at h;let⟨h1,h2⟩:=Gp h.2;rw[Na,E2,JX];have:=h.1;unfold BB at*;omega
theorem dC(h:n<l.length):l.take (n+1)=l.take n++[l.getD n 0]:=by simp_all
def Xp(h:n<l.length):AM (l.take<|n+1)=AM (l.take n)+B3 n*l.getD n 0:=by rw[dC h,Vb,EK,EZ A4];simp[AM]
def S2(l:A3 Int)(n:Nat)(h:n<=l.length):AM l=AM (l.take n)+B3 n*AM (l.drop n):=by
 conv=>lhs;rw[<-Oi n l]
 rw[Vb,EK,EZ h]
def Tn:∀{l:A3 Int},okW l->l≠[]->l.getLast?≠some 0->B3 (l.length-1)<=AM l
 |[],_,h,_=>absurd rfl h
 |[x],h,_,hl=>by
  rw[PV] at h;have:x≠0:=λe=>hl (by rw[e];rfl)
  simp[AM,Yv];omega
 |x::y::l,h,_,hl=>by rw[PV] at h;have:=Tn (l:=y::l) h.2 AT (by simpa using hl);rw[Na,show(x::y::l).length-1=(y::l).length-1+1 from by simp,JX];have:=h.1;unfold BB at*;omega
def ait(h:n<l.length)(x:Int):l.set n x=l.take n++x::l.drop (n+1):=by rw[List.set_eq_take_append_cons_drop,if_pos h]
def HJ(h:n<=m)(x:Int):(l.set m x).take n=l.take n:=by rw[List.take_set_of_le h]
theorem getD_set_ne(h:n≠m)(x:Int):(l.set m x).getD n 0=l.getD n 0:=by grind
theorem J7(h:n<l.length)(x:Int):(l.set n x).getD n 0=x:=by grind
def Norm(w:A3 Int):Prop:=okW w/\w.getLast?≠some 0
def Norm.nil:Norm []:=⟨ZK,AT⟩
def Norm.len(h:Norm w)(hv:AM w<B3 n):w.length<=n:=by
 by_cases h0:w=[]
 .subst h0;simp
 .have h1:=Tn h.1 h0 h.2;rcases Hl n w.length with h2|h2
  .have:B3 n<=B3 (w.length-1):=by obtain⟨k,hk⟩:∃k,w.length-1=n+k:=⟨w.length-1-n,A4⟩;rw[hk,gY];have a:=Ln n;have b:=Ln k;have:B3 n*1<=B3 n*B3 k:=F0 A4 A4;omega
   omega
  .exact h2
theorem EG{a b:Bool}(h:(a&&b)=true):a=true/\b=true:=by grind
def SH(ha:okW a)(hl:a.length<4611686018427387904):Yd (λw=>Norm w/\AM w=AM a/\w.length<=a.length) (OJ a):=by
 unfold OJ;refine ET (λs:Int=>0<=s/\s<=a.length/\AM (a.take s.toNat)=AM a) (λs:Int=>s.toNat) ?_ _ _ ⟨A4,A4,AT⟩ DJ;rintro next s ⟨h0,h1,h2⟩ hn
 refine GR (λhg=>?_)<|λhg=>?_
 .have hs:0<s:=As hg;refine⟨s-1,EL ⟨A4,A4⟩,GR (λ_=>⟨a.getD (s-1).toNat 0,UU A4 A4,Ab (λhc=>?_)<|λhc=>?_⟩) (λh=>by rw[hg] at h;cases h)⟩
  .let⟨_,hz⟩:=EG hc;have hz:=As hz;refine A5 BH<|hn _ ⟨A4,A4,?_⟩ A4
   have e:s.toNat=(s-1).toNat+1:=A4;rw[e,Xp A4,hz,UD,WG] at h2;exact h2
  .refine A5 (EC A4 h0 h1) (AW ⟨⟨MP ha _,?_⟩,h2,DJ⟩);rw[B9 hs,Kg] at hc;have hz:=Bh hc;have e:s.toNat=(s-1).toNat+1:=A4;show(a.take s.toNat).getLast?≠some 0;rw[e,dC A4];simpa using hz
 .have hs: ¬0<s:=Bh hg;have hs:s=0:=A4;subst hs;refine GR (λh=>by rw[hg] at h;cases h) (λ_=>Ab (λhc=>by simp at hc) (λ_=>A5 (EC A4 A4 h1) (AW ⟨by simpa using Norm.nil,by simpa using h2,AT⟩)))
theorem ag1(ha:okW a)(hb:okW b)(hla:a.length<4398046511104)(hlb:b.length<4398046511104):Yd (λw=>Norm w/\AM w=AM a+AM b) (Xy a b):=by
 unfold Xy;refine DZ (λs:A3 Int×A3 Int=>okW s.1/\okW s.2/\s.2.length<=s.1.length/\s.1.length<4398046511104/\AM s.1+AM s.2=AM a+AM b) ?_ λk hk=>Ab (λhc=>?_)<|λhc=>?_
 rotate_left
 .grind
 .grind
 rintro⟨x,y⟩ ⟨hx,hy,hl,hlx,hv⟩;simp only at hx hy hl hlx hv⊢;rw[<-hv];refine A5 BH<|A5 (Py A4 A4 A4) ?_
 refine ET (λs:A3 Int×Int×Int=>okW s.1/\s.1.length=x.length+1/\(s.2.1=0\/s.2.1=1)/\0<=s.2.2/\s.2.2<=x.length/\AM (s.1.take s.2.2.toNat)+B3 s.2.2.toNat*s.2.1=AM (x.take s.2.2.toNat)+AM (y.take s.2.2.toNat))
  (λs:A3 Int×Int×Int=>x.length-s.2.2.toNat) ?_ _ _ ⟨VS _,by simp only[Nv];omega,.inl rfl,by dsimp;omega,by dsimp;omega,by simp[AM]⟩ (by dsimp;omega)
 rintro next ⟨o,c,i⟩ ⟨h1,h2,h3,h4,h5,h6⟩ hn
 simp only at h1 h2 h3 h4 h5 h6 hn⊢;obtain⟨n,rfl⟩:=FA h4;simp only[Ci,Mg] at*;refine Ab (λhc=>?_)<|λhc=>?_
 .have hc:=As hc;refine DZ (λv=>v=y.getD n 0) ?_ λk hk=>Ab (λhd=>?_)<|λhd=>?_
  .rintro v rfl;let⟨p1,p2⟩:=G3 hx n;let⟨q1,q2⟩:=G3 hy n;refine A5 (UU A4 A4) ?_;simp only[Ci]
   generalize hX:x.getD n 0=X at*
   generalize hY:y.getD n 0=Y at*
   have bE:Lr X Y c=some ((X+Y+c)%BB,(X+Y+c)/BB):=by unfold Lr HD;rw[B9 p1,B9 p2,B9 q1,B9 q2];rcases h3 with rfl|rfl<;>rfl
   refine A5 bE<|A5 (UU A4 A4)<|A5 (UU A4 A4)<|A5 BH ?_
   have hdm:=Oh (X+Y+c) BB;have Kz:0<=(X+Y+c)%BB:=Ly _ (by unfold BB;omega);have hr1:(X+Y+c)%BB<BB:=LQ _ (by unfold BB;omega);have hq:(X+Y+c)/BB=0\/(X+Y+c)/BB=1:=AK;refine hn _ ⟨Kd h1 _ ⟨Kz,hr1⟩,by simpa using h2,hq,by dsimp;omega,by dsimp;omega,?_⟩ (by dsimp;omega);have e:(((n:Nat):Int)+1).toNat=n+1:=A4;simp[e,Ci];rw[Xp (by simpa using by omega),HJ<|BQ _,J7 A4,Xp A4,hX,JX];have hy':AM (y.take<|n+1)=AM (y.take n)+B3 n*Y:=by
    rcases Hl n y.length with h|h
    .rw[Xp h,hY]
    .have:Y=0:=by rw[<-hY];simp[JB,h]
     rw[this,D6 A4,D6 h];omega
   rw[hy'];have key:B3 n*((X+Y+c)%BB)+BB*B3 n*((X+Y+c)/BB)=B3 n*(X+Y+c):=AK;have k2:B3 n*(X+Y+c)=B3 n*X+B3 n*Y+B3 n*c:=AK;omega
  .have hd:=As hd;exact A5 (UU A4 hd)<|hk _ AT
  .grind
 .have hc:=Bh hc;have HR:n=x.length:=A4;subst HR;refine A5 (UU A4 A4)<|A5 (UU A4 A4) ?_
  have FR:0<=c/\c<BB:=by unfold BB;omega
  refine Au (SH (Kd h1 x.length FR) DJ) λw ⟨w1,w2,_⟩=>AW ⟨w1,?_⟩
  have e1:=S2 (o.set x.length c) x.length (by rw[LP];omega);have e2:(o.set x.length c).drop x.length=[c]:=by rw[ait A4,Nl,NG (by rw[EK];omega)];have:(o.drop<|x.length+1)=[]:=NG A4;rw[this,EK,EZ A4];simp
  rw[e2,HJ<|BQ _] at e1;rw[D6 (l:=x) A4,D6 (l:=y) A4] at h6;rw[show AM [c]=c from by simp[AM]] at e1;omega
def aBh(h:n<l.length):AM l=AM (l.take n)+B3 n*(l.getD n 0+BB*AM (l.drop<|n+1)):=by
 rw[S2 l n A4]
 congr 2
 rw[US h,Na]
 congr 1
 simp[JB,h]
def ft(h:m<=n):B3 m<=B3 n:=by obtain⟨k,rfl⟩:∃k,n=m+k:=⟨n-m,A4⟩;rw[gY];have a:=Ln m;have b:=Ln k;have:B3 m*1<=B3 m*B3 k:=F0 A4 A4;omega
def YX(ha:okW a)(hb:Norm b)(h:a.length<b.length):AM a<AM b:=by have h1:=(Gp ha).2;have h2:=Tn hb.1 (by intro e;subst e;simp at h) hb.2;have h3:=ft (show a.length<=b.length-1 by omega);omega
theorem uV(ha:Norm a)(hb:Norm b)(hla:a.length<4398046511104)(hlb:b.length<4398046511104):Yd (λr=>(r= -1/\AM a<AM b)\/(r=0/\AM a=AM b)\/(r=1/\AM b<AM a)) (XX a b):=by
 unfold XX;refine Ab (λhc=>Ab (λhd=>?_)<|λhd=>?_)<|λhc=>?_
 .have hd:=As hd;exact AW<| .inl ⟨rfl,YX ha.1 hb A4⟩
 .have hd:=Bh hd;rw[GM,Ih] at hc;exact AW<| .inr<| .inr ⟨rfl,YX hb.1 ha A4⟩
 .rw[WV,Hm] at hc;have hl:a.length=b.length:=A4;refine A5 BH ?_;refine ET (λs:Int=> -1<=s/\s<a.length/\a.drop (s+1).toNat=b.drop (s+1).toNat) (λs:Int=>(s+1).toNat) ?_ _ _ ⟨A4,A4,?_⟩ A4
  .rintro next s ⟨h0,h1,h2⟩ hn
   refine Ab (λhp=>?_)<|λhp=>?_
   .have hp:=As hp;obtain⟨n,rfl⟩:=FA hp;have en:(((n:Nat):Int)+1).toNat=n+1:=A4;rw[en] at h2;refine A5 (Bm A4)<|A5 (Bm A4) ?_
    have eA:=aBh (l:=a) (n:=n) A4;have eB:=aBh (l:=b) (n:=n) A4;rw[h2] at eA;let⟨tA0,tA⟩:=Gp<|MP ha.1 n
    let⟨tB0,tB⟩:=Gp<|MP hb.1 n
    rw[EK,EZ A4] at tA tB;have hpw:=Ln n;have gA:AB a (n:Int)=some (a.getD n 0):=Bm A4;have gB:AB b (n:Int)=some (b.getD n 0):=Bm A4;have dA:a.drop n=a.getD n 0::a.drop (n+1):=by
     rw[US (show n<a.length by omega)]
     congr 1
     simp[JB,show n<a.length by omega]
    have dB:b.drop n=b.getD n 0::b.drop (n+1):=by
     rw[US (show n<b.length by omega)]
     congr 1
     simp[JB,show n<b.length by omega]
    generalize a.getD n 0=X at*
    generalize b.getD n 0=Y at*
    have eA':AM a=AM (a.take n)+B3 n*X+B3 n*(BB*AM (b.drop<|n+1)):=AK;have eB':AM b=AM (b.take n)+B3 n*Y+B3 n*(BB*AM (b.drop<|n+1)):=AK;refine Ab (λhx=>?_)<|λhx=>?_
    .rw[GM,Ih] at hx;refine A5 gA<|A5 gB<|Ab (λhlt=>?_)<|λhlt=>?_
     .have hlt:=As hlt;have:B3 n*(X+1)<=B3 n*Y:=F0 A4 A4;rw[Dc,Ls] at this;exact AW<| .inl ⟨rfl,A4⟩
     .have hlt:=Bh hlt;have:B3 n*(Y+1)<=B3 n*X:=F0 A4 A4;rw[Dc,Ls] at this;exact AW<| .inr<| .inr ⟨rfl,A4⟩
    .rw[WV,Hm] at hx;refine A5 BH<|hn _ ⟨A4,A4,?_⟩ A4
     have:(((n:Nat):Int)-1+1).toNat=n:=A4;rw[this,dA,dB,hx,h2]
   .have hp:=Bh hp;have:s= -1:=A4;subst this;exact AW (.inr (.inl ⟨rfl,by simpa using congrArg AM h2⟩))
  .have:((a.length:Int)-1+1).toNat=a.length:=A4;rw[this,Sc,hl,Sc]
theorem pf{c:Int}(hx:0<=X/\X<BB)(hy:0<=Y/\Y<BB)(hc:c=0\/c=1):∃r d:Int,SU X Y c=some (r,d)/\0<=r/\r<BB/\(d=0\/d=1)/\X-Y-c=r-BB*d:=by
 have h:SU X Y c=some ((X-Y-c)%GX,bif decide (X<Y+c) then 1 else 0):=by unfold SU HD;rw[B9 hx.1,B9 hx.2,B9 hy.1,B9 hy.2];rcases hc with rfl|rfl<;>rfl
 refine⟨_,_,h,Ly _ (by unfold GX;omega),LQ _ (by unfold GX;omega),?_,?_⟩
 .grind
 .unfold GX BB at*;by_cases h:X<Y+c
  .grind
  .grind
def Wi{c:Int}(hx:0<=X/\X<BB)(hy:0<=Y/\Y<BB)(hc:c=0\/c=1):∃r d:Int,Lr X Y c=some (r,d)/\0<=r/\r<BB/\(d=0\/d=1)/\X+Y+c=r+BB*d:=by
 have h:Lr X Y c=some ((X+Y+c)%GX,(X+Y+c)/GX):=by unfold Lr HD;rw[B9 hx.1,B9 hx.2,B9 hy.1,B9 hy.2];rcases hc with rfl|rfl<;>rfl
 refine⟨_,_,h,Ly _ (by unfold GX;omega),LQ _ (by unfold GX;omega),?_,?_⟩
 .unfold GX BB at*;omega
 .have:=Oh (X+Y+c) GX;unfold GX BB at*;omega
def iA(hx:0<=X/\X<BB)(hy:0<=Y/\Y<BB):∃hi lo:Int,Qf X Y=some (hi,lo)/\0<=hi/\hi<=BB-2/\0<=lo/\lo<BB/\X*Y=lo+BB*hi:=by
 have h:Qf X Y=some (X*Y/GX,X*Y%GX):=by
  unfold Qf HD;rw[B9 hx.1,B9 hx.2,B9 hy.1,B9 hy.2]
  rfl
 have h1:=Oh (X*Y) GX;have h2:0<=X*Y:=LN hx.1 hy.1;have h3:X*Y<=(BB-1)*(BB-1):=Pf A4 A4 hy.1 (by unfold BB;omega);have h4:0<=X*Y%GX:=Ly _ (by unfold GX;omega);have h5:X*Y%GX<GX:=LQ _ (by unfold GX;omega);refine⟨_,_,h,?_,?_,h4,h5,?_⟩
 .exact LO h2 (by unfold GX;omega)
 .generalize X*Y/GX=q at*
  generalize X*Y%GX=r at*
  generalize X*Y=p at*
  unfold GX BB at*;omega
 .unfold GX BB at*;omega
theorem j8(h:l.length<=n):l.getD n 0=0:=by grind
def FL(l:A3 Int)(n:Nat):AM (l.take<|n+1)=AM (l.take n)+B3 n*l.getD n 0:=by
 rcases Hl n l.length with h|h
 .exact Xp h
 .rw[j8 h,D6 A4,D6 h];omega
theorem w7(ha:okW a)(hb:okW b)(hl:b.length<=a.length)(hla:a.length<4398046511104)(hv:AM b<=AM a):Yd (λw=>Norm w/\AM w=AM a-AM b) (Xx a b):=by
 unfold Xx;refine A5 (Py A4 A4 A4) ?_;refine ET (λs:A3 Int×Int×Int=>okW s.1/\s.1.length=a.length/\(s.2.1=0\/s.2.1=1)/\0<=s.2.2/\s.2.2<=a.length/\AM (s.1.take s.2.2.toNat)=AM (a.take s.2.2.toNat)-AM (b.take s.2.2.toNat)+B3 s.2.2.toNat*s.2.1)
  (λs:A3 Int×Int×Int=>a.length-s.2.2.toNat) ?_ _ _ ⟨VS _,by simp only[Nv];omega,.inl rfl,BS,BS,by simp[AM]⟩ BS
 rintro next ⟨o,c,i⟩ ⟨h1,h2,h3,h4,h5,h6⟩ hn
 simp only at h1 h2 h3 h4 h5 h6 hn⊢;obtain⟨n,rfl⟩:=FA h4;simp only[Ci,Mg] at*;refine Ab (λhc=>?_)<|λhc=>?_
 .have hc:=As hc;refine DZ (λv=>v=b.getD n 0) ?_ λk hk=>Ab (λhd=>?_)<|λhd=>?_
  .rintro v rfl;let⟨r,d,e1,e2,e3,e4,e5⟩:=pf (G3 ha n) (G3 hb n) h3;refine A5 (Bm A4)<|A5 e1<|A5 (Bm A4)<|A5 (Bm A4)<|A5 BH ?_
   refine hn _ ⟨Kd h1 _ ⟨e2,e3⟩,by simpa using h2,e4,BS,BS,?_⟩ BS;have e:(((n:Nat):Int)+1).toNat=n+1:=A4;simp only[e,Ci];rw[FL,HJ<|BQ _,J7 A4,FL a,FL b,JX]
   generalize a.getD n 0=X at*
   generalize b.getD n 0=Y at*
   have key:B3 n*(X-Y-c)=B3 n*r-BB*B3 n*d:=AK;have k2:B3 n*(X-Y-c)=B3 n*X-B3 n*Y-B3 n*c:=AK;omega
  .have hd:=As hd;exact A5 (Bm A4)<|hk _ rfl
  .grind
 .have hc:=Bh hc;have HR:n=a.length:=A4;subst HR;refine Au (SH h1 A4) λw ⟨w1,w2,_⟩=>AW ⟨w1,?_⟩
  rw[w2];rw[D6 (l:=o) A4,D6 (l:=a) A4,D6 (l:=b) A4] at h6;have Bg:=(Gp h1).2;rw[h2] at Bg;have hp:=Ln a.length;rcases h3 with rfl|rfl
  .omega
  .omega
def aeu(h:AM (l.drop n)=0)(hk:okW l)(hm:n<=m):l.getD m 0=0:=by
 have key:∀(l:A3 Int) (j:Nat),okW l->AM l=0->l.getD j 0=0:=by
  intro l
  induction l with
  |nil=>intro j _ _;simp
  |cons x l ih=>intro j hk hv;rw[PV] at hk;rw[Na] at hv;have h1:=(Gp hk.2).1;have hx:=hk.1;unfold BB at*;cases j with|zero=>simp;omega|succ j=>simpa using ih j hk.2 A4
 have:=key (l.drop n) (m-n) (SF hk n) h;simpa[JB,UK,show n+(m-n)=m by omega] using this
theorem ag0(ha:okW a)(hb:okW b)(hla:a.length<2199023255552)(hlb:b.length<2199023255552):Yd (λw=>Norm w/\AM w=AM a*AM b) (dJ a b):=by
 unfold dJ;refine A5 BH<|A5 (Py A4 A4 A4) ?_
 refine ET (λs:A3 Int×Int=>okW s.1/\s.1.length=a.length+b.length/\0<=s.2/\s.2<=a.length/\AM (s.1.take<|s.2.toNat+b.length)=AM (a.take s.2.toNat)*AM b)
  (λs:A3 Int×Int=>a.length-s.2.toNat) ?_ _ _ ⟨VS _,by simp only[Nv];omega,BS,BS,?_⟩ BS
 rotate_left
 .dsimp only;rw[Zk,lY];simp[AM]
 rintro next ⟨o,i⟩ ⟨h1,h2,h3,h4,h5⟩ hn
 simp only at h1 h2 h3 h4 h5 hn⊢;obtain⟨n,rfl⟩:=FA h3;simp only[Ci,Mg] at*;refine Ab (λhc=>?_)<|λhc=>?_
 .have hc:=As hc;refine A5 (Bm A4) ?_;refine ET (λs:A3 Int×Int×Int=>okW s.1/\s.1.length=a.length+b.length/\(0<=s.2.1/\s.2.1<BB)/\0<=s.2.2/\s.2.2<=b.length/\s.1.drop (n+s.2.2.toNat)=o.drop (n+s.2.2.toNat)/\
    AM (s.1.take<|n+s.2.2.toNat)+B3 (n+s.2.2.toNat)*s.2.1=AM (o.take<|n+s.2.2.toNat)+B3 n*(a.getD n 0*AM (b.take s.2.2.toNat)))
   (λs:A3 Int×Int×Int=>b.length-s.2.2.toNat) ?_ _ _ ⟨h1,h2,⟨BS,by dsimp only;unfold BB;omega⟩,BS,BS,rfl,by simp[AM]⟩ BS
  rintro FN ⟨p,c,j⟩ ⟨g1,g2,g3,g4,g5,g6,g7⟩ IW;simp only at g1 g2 g3 g4 g5 g6 g7 IW⊢;obtain⟨m,rfl⟩:=FA g4;simp only[Ci,Mg] at*;have eo:p.getD (n+m) 0=o.getD (n+m) 0:=by have:=congrArg (λl=>l.getD 0 0) g6;simpa[JB,UK] using this
  refine Ab (λhd=>?_)<|λhd=>?_
  .have hd:=As hd;let⟨hi,lo,m1,m2,m3,m4,m5,m6⟩:=iA (G3 ha n)<|G3 hb m
   let⟨r1,d1,a1,a2,a3,a4,a5⟩:=Wi (X:=lo) (Y:=p.getD (n+m) 0) (c:=0) ⟨m4,m5⟩ (G3 g1 _)<| .inl rfl
   let⟨r2,d2,b1,b2,b3,b4,b5⟩:=Wi (X:=r1) (Y:=c) (c:=0) ⟨a2,a3⟩ g3<| .inl rfl
   have enm:((n:Nat):Int)+((m:Nat):Int)=((n+m:Nat):Int):=A4;rw[enm];refine A5 (Bm A4)<|A5 m1<|A5 BH<|A5 (Bm A4)<|A5 (Bm A4)<|A5 a1<|A5 b1<|A5 BH<|A5 (Bm A4)<|A5 (Bm A4)<|A5 BH ?_
   let⟨xa,xb⟩:=G3 ha n;let⟨ya,yb⟩:=G3 hb m;let⟨oa,ob⟩:=G3 g1<|n+m
   have NS:a.getD n 0*b.getD m 0<=(BB-1)*(BB-1):=Pf A4 A4 ya (by unfold BB;omega);have hD:BB*(hi+d1+d2)=a.getD n 0*b.getD m 0+p.getD (n+m) 0+c-r2:=AK;have hlt:hi+d1+d2<BB:=AK;have hw:wr .u64 (wr .u64 (hi+d1)+d2)=hi+d1+d2:=by have e1:wr .u64 (hi+d1)=hi+d1:=wrap_u64 ⟨A4,by unfold BB at*;omega⟩;rw[e1];exact wrap_u64 ⟨A4,by unfold BB at*;omega⟩
   dsimp only;rw[hw];refine IW _ ⟨Kd g1 _ ⟨b2,b3⟩,by simpa using g2,⟨BS,hlt⟩,BS,BS,?_,?_⟩ BS
   .have e:(((m:Nat):Int)+1).toNat=m+1:=A4;simp only[e,Ci];rw[iY A4,<-LM];have:=congrArg (List.drop 1) g6;rwa [Fe,Fe] at this
   .have e:(((m:Nat):Int)+1).toNat=m+1:=A4;simp only[e,Ci];rw[<-LM,FL,HJ<|BQ _,J7 A4,FL o,FL b,<-eo,JX];have k1:B3 n*(a.getD n 0*(AM (b.take m)+B3 m*b.getD m 0))=B3 n*(a.getD n 0*AM (b.take m))+B3 (n+m)*(a.getD n 0*b.getD m 0):=by rw[Dc,Dc,gY,GQ (a.getD n 0)<|B3 m,FW]
    have k2:B3 (n+m)*r2+BB*B3 (n+m)*(hi+d1+d2)=B3 (n+m)*(a.getD n 0*b.getD m 0)+B3 (n+m)*p.getD (n+m) 0+B3 (n+m)*c:=AK;rw[k1];omega
  .have hd:=Bh hd;have KV:m=b.length:=A4;subst KV;have enm:((n:Nat):Int)+((b.length:Nat):Int)=((n+b.length:Nat):Int):=A4;rw[enm];refine A5 BH<|A5 (Bm A4)<|A5 (Bm A4)<|A5 BH ?_
   refine hn _ ⟨Kd g1 _ g3,by simpa using g2,BS,BS,?_⟩ BS;have e:(((n:Nat):Int)+1).toNat=n+1:=A4;simp only[e,Ci];rw[show n+1+b.length=(n+b.length)+1 from by omega,FL,HJ<|BQ _,J7 A4,FL a,IB];rw[D6 (l:=b) A4,h5] at g7;rw[g7,FW]
 .have hc:=Bh hc;have HR:n=a.length:=A4;subst HR;refine Au (SH h1 A4) λw ⟨w1,w2,_⟩=>AW ⟨w1,?_⟩
  rw[w2];rw[D6 (l:=o) A4,D6 (l:=a) A4] at h5;exact h5
def wrW(n:Int):IntKind.wrap .u64 n=n%BB:=by
 unfold IntKind.wrap
 rfl
def Iu{n:Int}(h:0<=n/\n<BB):IntKind.wrap .u64 n=n:=by rw[wrW,UJ h.1 h.2]
theorem ab6(hx:0<=x)(hy:0<=y)(hs:y<2^s)(hd:x%2^s=0)(hw:x+y<BB):Ge .or .u64 x y=x+y:=by
 obtain⟨a,rfl⟩:=FA hx;obtain⟨b,rfl⟩:=FA hy;have DQ:b<2^s:=AK;have hd':a%2^s=0:=AK;have ho:a|||b=a+b:=by
  have e:a=2^s*(a/2^s):=by have:=Nat.div_add_mod a (2^s);omega
  rw[e,<-Nat.two_pow_add_eq_or_of_lt DQ]
 have hb:a+b<2^64:=AK;unfold Ge;show IntKind.wrap .u64 ((BitVec.ofInt 64 a|||BitVec.ofInt 64 b).toNat:Int)=_;have e1:BitVec.ofInt 64 (a:Int)=BitVec.ofNat 64 a:=ig ..;have e2:BitVec.ofInt 64 (b:Int)=BitVec.ofNat 64 b:=ig ..;rw[e1,e2,BitVec.toNat_or,iV,iV,Sd A4,Sd A4,ho];exact Iu ⟨A4,A4⟩
theorem aBA(hx:0<=x/\x<BB):Ge .and .u64 x 4294967295=x%4294967296:=by obtain⟨a,rfl⟩:=FA hx.1;have hb:a<2^64:=AK;unfold Ge;show IntKind.wrap .u64 ((BitVec.ofInt 64 a&&&BitVec.ofInt 64 ((4294967295:Nat):Int)).toNat:Int)=_;have e1:BitVec.ofInt 64 (a:Int)=BitVec.ofNat 64 a:=ig ..;have e2:BitVec.ofInt 64 ((4294967295:Nat):Int)=BitVec.ofNat 64 4294967295:=ig ..;rw[e1,e2,BitVec.toNat_and,iV,iV,Sd hb,Sd A4,show 4294967295=2^32-1 from rfl,Nat.and_two_pow_sub_one_eq_mod];have:a%2^32<2^32:=OS _ A4;rw[Iu ⟨A4,by unfold BB;omega⟩];omega
def kF(hs:s<=64):Mn .u64 x (s:Int)=some (x/2^s):=by
 rw[aoh A4]
 congr 1
 rw[Ci,EZ<|show s<=IntKind.bits .u64 from hs];exact Int.fdiv_eq_ediv_of_nonneg _<|EY<|Int.pow_pos A4
def kG(hs:s<=64):Mo .u64 x (s:Int)=some (x*2^s%BB):=by
 rw[aoi A4]
 congr 1
 rw[Ci,EZ<|show s<=IntKind.bits .u64 from hs,wrW]
def dc(h:s<=64):(2:Int)^s*2^(64-s)=BB:=by rw[<-Int.pow_add,show s+(64-s)=64 from by omega];rfl
def two_pos(s:Nat):(0:Int)<2^s:=Int.pow_pos A4
def wR(hs:s<=64)(hx:0<=x/\x<BB):∃lo hi:Int,Mo .u64 x (s:Int)=some lo/\Mn .u64 x ((64:Int)-(s:Int))=some hi/\0<=lo/\lo<BB/\0<=hi/\hi<2^s/\lo%2^s=0/\x*2^s=lo+BB*hi:=by
 have e64:((64:Int)-(s:Int))=((64-s:Nat):Int):=A4;have h2:=dc hs;have p1:=two_pos s;have p2:=two_pos<|64-s
 have abl:x*2^s=(x%2^(64-s))*2^s+BB*(x/2^(64-s)):=by
  conv=>lhs;rw[<-Oh x (2^(64-s))]
  rw[IB,<-h2,Int.mul_right_comm,FM (2^(64-s))<|2^s]
 have r0:=Ly x (show(2:Int)^(64-s)≠0 by omega);have r1:=LQ x p2;have hlt:(x%2^(64-s))*2^s<BB:=by rw[<-h2,FM];exact Int.mul_lt_mul_of_pos_left r1 p1
 have hge:0<=(x%2^(64-s))*2^s:=LN r0<|EY p1
 refine⟨(x%2^(64-s))*2^s,x/2^(64-s),?_,?_,hge,hlt,LO hx.1<|EY p2,?_,Int.mul_emod_left _ _,abl⟩
 .rw[kG hs,abl,Int.add_mul_emod_self_left,UJ hge hlt]
 .rw[e64,kF A4]
 .refine Zp p2 ?_;rw[h2];exact hx.2
structure HS(y1 y0 N d q r:Int):Prop where
 q0:0<=q
 q1:q<=4294967297
 e:q*y1+r=N
 r0:0<=r
 r1:r<4294967296
 up:N*4294967296+d<(q+1)*(y1*4294967296+y0)
structure HQ(y1 y0 N d q:Int):Prop where
 q0:0<=q
 q1:q<4294967296
 lo:q*(y1*4294967296+y0)<=N*4294967296+d
 up:N*4294967296+d<(q+1)*(y1*4294967296+y0)
structure HP(y1 y0 N d:Int):Prop where
 a0:2147483648<=y1
 a1:y1<4294967296
 b0:0<=y0
 b1:y0<4294967296
 n0:0<=N
 n1:N<y1*4294967296+y0
 d0:0<=d
 d1:d<4294967296
def aai(p:HP y1 y0 N d):HS y1 y0 N d (N/y1) (N-N/y1*y1):=by
 let⟨a0,a1,b0,b1,n0,n1,d0,d1⟩:=p;have h1:=Oh N y1;have h2:=Ly N (show y1≠0 by omega);have h3:=LQ N (show 0<y1 by omega);have h4:0<=N/y1:=LO n0 A4
 generalize N/y1=q at*
 generalize N%y1=r at*
 rw[FM y1 q] at h1;refine⟨h4,?_,A4,A4,A4,?_⟩
 .have:q<=4294967297\/4294967298<=q:=A4;rcases this with h|h
  .exact h
  .have:4294967298*y1<=q*y1:=NH h A4;omega
 .have hq:0<=q*y0:=LN h4 b0;rw[IB,Dc,<-FW];omega
def acP{r:Int}(p:HP y1 y0 N d)(h:HS y1 y0 N d q r)(hc: ¬4294967296<=q)(hd: ¬4294967296*r+d<q*y0):HQ y1 y0 N d q:=by let⟨a0,a1,b0,b1,n0,n1,d0,d1⟩:=p;let⟨q0,q1,e,r0,r1,up⟩:=h;refine⟨q0,A4,?_,up⟩;rw[Dc,<-FW];omega
theorem js{r:Int}(p:HP y1 y0 N d)(h:HS y1 y0 N d q r)(hc:4294967296<=q\/4294967296*r+d<q*y0):1<=q/\N*4294967296+d<(q-1+1)*(y1*4294967296+y0):=by
 let⟨a0,a1,b0,b1,n0,n1,d0,d1⟩:=p;let⟨q0,q1,e,r0,r1,up⟩:=h;have e1:q-1+1=q:=A4;rw[e1,Dc,<-FW];rcases hc with hc|hc
 .refine⟨A4,?_⟩;have h1:4294967296*y1<=q*y1:=NH hc A4;have h2:4294967296*y0<=q*y0:=NH hc A4;omega
 .grind
theorem ze{r:Int}(p:HP y1 y0 N d)(h:HS y1 y0 N d q r)(hc:4294967296<=q\/4294967296*r+d<q*y0)(hb:4294967296<=r+y1):HQ y1 y0 N d (q-1):=by
 let⟨u1,u2⟩:=js p h hc;let⟨a0,a1,b0,b1,n0,n1,d0,d1⟩:=p;let⟨q0,q1,e,r0,r1,up⟩:=h;have hy:(q-1)*y0<=4294967296*y0:=NH A4 b0;have e2:(q-1)*y1=q*y1-y1:=AK;have lo:(q-1)*(y1*4294967296+y0)<=N*4294967296+d:=AK;refine⟨A4,?_,lo,u2⟩;have:q-1<4294967296\/4294967296<=q-1:=A4;rcases this with h|h
 .exact h
 .grind
theorem aah{r:Int}(p:HP y1 y0 N d)(h:HS y1 y0 N d q r)(hc:4294967296<=q\/4294967296*r+d<q*y0)(hb:r+y1<4294967296):HS y1 y0 N d (q-1) (r+y1):=by let⟨u1,u2⟩:=js p h hc;let⟨a0,a1,b0,b1,n0,n1,d0,d1⟩:=p;let⟨q0,q1,e,r0,r1,up⟩:=h;have e2:(q-1)*y1=q*y1-y1:=AK;exact⟨A4,A4,A4,A4,A4,u2⟩
theorem aaj{r:Int}(p:HP y1 y0 N d)(h:HS y1 y0 N d q r):((decide<|4294967296<=q)||(decide<|(IntKind.wrap .u64<|(IntKind.wrap .u64<|4294967296*r)+d)<(IntKind.wrap .u64<|q*y0)))=decide (4294967296<=q\/4294967296*r+d<q*y0):=by
 let⟨a0,a1,b0,b1,n0,n1,d0,d1⟩:=p;let⟨q0,q1,e,r0,r1,up⟩:=h;rw[Iu (n:=4294967296*r) ⟨A4,by unfold BB;omega⟩,Iu (n:=4294967296*r+d) ⟨A4,by unfold BB;omega⟩];by_cases hq:4294967296<=q
 .grind
 .have h1:0<=q*y0:=LN q0 b0;have h2:q*y0<=4294967295*4294967295:=Pf A4 A4 b0 A4;rw[Iu (n:=q*y0) ⟨h1,by unfold BB;omega⟩,CB hq,WI]
  congr 1
  simp[hq]
def aak(p:HP y1 y0 N d)(h:HQ y1 y0 N d q)(hy:y=y1*4294967296+y0):IntKind.wrap .u64 (IntKind.wrap .u64 (IntKind.wrap .u64 (N*4294967296)+d)-IntKind.wrap .u64 (q*y))=N*4294967296+d-q*y:=by
 let⟨a0,a1,b0,b1,n0,n1,d0,d1⟩:=p;let⟨q0,q1,lo,up⟩:=h;subst hy;simp only[wrW];rw[IB,JA] at up
 generalize q*(y1*4294967296+y0)=Z at*
 unfold BB;omega
def Yk(h:n≠0):2^Nat.log2 n<=n/\n<2^(Nat.log2 n+1):=⟨Nat.log2_self_le h,Nat.lt_log2_self⟩
theorem abc(h0:0<y)(h1:y<BB):∃s:Nat,Wo y=some (s:Int)/\s<=63/\BB<=2*(y*2^s)/\y*2^s<BB:=by
 obtain⟨n,rfl⟩:=FA<|EY h0
 have hn:n≠0:=A4;let⟨l1,l2⟩:=Yk hn;have hl:Nat.log2 n<=63:=by
  have:Nat.log2 n<64:=by rw[Pb hn];have:n<18446744073709551616:=AK;exact this
  omega
 refine⟨63-Nat.log2 n,?_,A4,?_,?_⟩
 .unfold Wo HD;rw[B9 (show(0:Int)<=(n:Int) by omega),B9<|show((n:Nat):Int)<18446744073709551616 from h1];show some (64-((O0 ((n:Nat):Int).toNat:Nat):Int))=_;have:O0 n=Nat.log2 n+1:=by
   unfold O0;have:Nat.beq n 0=false:=by cases hb:Nat.beq n 0 with|false=>rfl|true=>exact absurd (EF hb) hn
   rw[this];rfl
  rw[Ci,this]
  congr 1;omega
 .have e:2^(63-Nat.log2 n)*2^Nat.log2 n=2^63:=by rw[<-N7];congr 1;omega
  have:2^63<=2^(63-Nat.log2 n)*n:=by rw[<-e];exact Zj _ l1
  have h2:(2:Int)^63<=2^(63-Nat.log2 n)*(n:Int):=AK;rw[FM] at h2;unfold BB;omega
 .have e:2^(63-Nat.log2 n)*2^(Nat.log2 n+1)=2^64:=by rw[<-N7];congr 1;omega
  have:2^(63-Nat.log2 n)*n<2^64:=by rw[<-e];exact Nat.mul_lt_mul_of_pos_left l2<|Nat.two_pow_pos _
  have h2:2^(63-Nat.log2 n)*(n:Int)<(2:Int)^64:=AK;rw[FM] at h2;unfold BB;omega
def pJ(hx:0<=x/\x<BB)(hy:0<y):V4 .u64 x y=some (x/y):=by unfold V4;rw[CB (show¬y=0 by omega)];show some (IntKind.wrap .u64<|x.tdiv y)=_;rw[Int.tdiv_eq_ediv_of_nonneg hx.1,Iu ⟨LO hx.1<|EY hy,Int.lt_of_le_of_lt (Sb _ hx.1) hx.2⟩]
theorem Qd(hx:0<=x)(hy:0<y):G9 x y=some (x%y):=by grind [G9]
def ac8:Mn .u64 x 32=some (x/4294967296):=kF (s:=32) A4
theorem yX{hi lo:Int}(L1:0<=hi/\hi<y)(G0:0<=lo/\lo<BB)(hy:y<BB):Yd (λp=>(0<=p.1/\p.1<BB)/\(0<=p.2/\p.2<y)/\hi*BB+lo=p.1*y+p.2) (Xa hi lo y):=by
 unfold Xa;dsimp only[wr];refine Ab (λhc=>absurd (As hc) A4)<|λ_=>Ab (λhc=>absurd (As hc) A4)<|λ_=>Ab (λh0=>?_)<|λh0=>?_
 .have h0:=As h0;subst h0;refine A5 (pJ G0 L1.2)<|A5 (Qd G0.1 L1.2)<|AW ⟨⟨LO G0.1 A4,Int.lt_of_le_of_lt (Sb _ G0.1) G0.2⟩,⟨Ly _ A4,LQ _ L1.2⟩,?_⟩
  have:=Oh lo y;rw[FM] at this;dsimp only;omega
 .have h0:=Bh h0;let⟨s,l1,l2,l3,l4⟩:=abc (y:=y) A4 hy;have ws:IntKind.wrap .u64 (s:Int)=s:=Iu ⟨A4,by unfold BB;omega⟩;have asG:IntKind.wrap .u64 ((64:Int)-s)=64-s:=Iu ⟨A4,by unfold BB;omega⟩;have ps:=two_pos s;have hgt:hi*2^s+2^s<=y*2^s:=by
   have:(hi+1)*2^s<=y*2^s:=NH A4<|EY ps
   rw[IB,JA] at this;exact this
  have hn:0<=hi*2^s:=LN L1.1<|EY ps
  let⟨u0,u1,e1,e2,a1,a2,a3,a4,a5,a6⟩:=wR (x:=lo) (s:=s) A4 G0;have eY:Mo .u64 y (s:Int)=some (y*2^s):=by rw[kG A4,UJ A4 l4]
  have eH:Mo .u64 hi (s:Int)=some (hi*2^s):=by rw[kG A4,UJ hn A4]
  have eO:Ge .or .u64 (hi*2^s) u1=hi*2^s+u1:=ab6 (s:=s) hn a3 a4 (Int.mul_emod_left _ _) A4;refine A5 l1 ?_;rw[ws,asG];refine A5 eY<|A5 ac8<|A5 eH<|A5 e2<|A5 e1<|A5 ac8 ?_
  rw[eO,aBA (x:=u0) ⟨a1,a2⟩,aBA (x:=y*2^s) ⟨A4,l4⟩];have XI:hi*BB*2^s+lo*2^s=(hi*2^s+u1)*BB+u0:=AK
  generalize hYd:y*2^s=Y at*
  generalize hNd:hi*2^s+u1=N at*
  have y1b:2147483648<=Y/4294967296:=AK;have y1c:Y/4294967296<4294967296:=AK;have yy:Y=Y/4294967296*4294967296+Y%4294967296:=A4;have hP1:HP (Y/4294967296) (Y%4294967296) N (u0/4294967296):=⟨y1b,y1c,A4,A4,A4,A4,A4,by unfold BB at*;omega⟩;have hu:u0=u0/4294967296*4294967296+u0%4294967296:=A4;have u00:0<=u0%4294967296:=A4;have u01:u0%4294967296<4294967296:=A4;have hYB:Y<BB:=l4
  generalize Y/4294967296=y1 at*
  generalize Y%4294967296=y0 at*
  generalize u0/4294967296=d1 at*
  generalize u0%4294967296=d0 at*
  have hN:0<=N/\N<BB:=⟨hP1.n0,A4⟩;refine A5 (pJ hN A4) ?_;refine DZ (HQ y1 y0 N d1) ?_ ?_
  .intro q1 hq1;rw[aak hP1 hq1 yy];have g1:=hq1.lo;have g2:=hq1.up;rw[<-yy] at g1 g2;rw[IB,JA] at g2;have hP2:HP y1 y0 (N*4294967296+d1-q1*Y) d0:=⟨y1b,y1c,hP1.b0,hP1.b1,A4,A4,u00,u01⟩
   generalize hM:N*4294967296+d1-q1*Y=M at*
   refine A5 (pJ ⟨hP2.n0,A4⟩ A4) ?_;refine DZ (HQ y1 y0 M d0) ?_ ?_
   .intro q0 hq0;rw[aak hP2 hq0 yy];have f1:=hq0.lo;have f2:=hq0.up;rw[<-yy] at f1 f2;rw[IB,JA] at f2;have NT:hi*BB*2^s+lo*2^s=(q1*4294967296+q0)*Y+(M*4294967296+d0-q0*Y):=AK
    generalize hR:M*4294967296+d0-q0*Y=R at*
    have hR0:0<=R:=A4;have hR1:R<Y:=A4;refine A5 (kF A4)<|AW ?_
    have q1a:=hq1.q0;have q1b:=hq1.q1;have q0a:=hq0.q0;have q0b:=hq0.q1;have eq:IntKind.wrap .u64 (IntKind.wrap .u64 (q1*4294967296)+q0)=q1*4294967296+q0:=by rw[Iu (n:=q1*4294967296) ⟨A4,by unfold BB;omega⟩,Iu ⟨A4,by unfold BB;omega⟩]
    dsimp only;rw[eq];have hdiv:R=2^s*(hi*BB+lo-(q1*4294967296+q0)*y):=AK;have hdd:R/2^s=hi*BB+lo-(q1*4294967296+q0)*y:=by rw[hdiv,Int.mul_ediv_cancel_left _ A4]
    refine⟨⟨A4,by unfold BB;omega⟩,⟨LO hR0 A4,Zp ps (by rw[hYd];exact hR1)⟩,?_⟩;rw[hdd];omega
   .intro k hk;have hi0:=aai hP2;have w1:0<=M/y1:=LO hP2.n0 A4;have e1:IntKind.wrap .u64 (M-IntKind.wrap .u64 (M/y1*y1))=M-M/y1*y1:=by have:=hi0.e;have:=hi0.r0;have:=hi0.r1;have h1:0<=M/y1*y1:=LN w1 A4;rw[Iu (n:=M/y1*y1) ⟨h1,by have:=hP2.n1;omega⟩,Iu ⟨A4,by unfold BB;omega⟩]
    rw[e1];refine ET (λs:Int×Int=>HS y1 y0 M d0 s.2 s.1) (λs:Int×Int=>s.2.toNat) ?_ _ _ hi0 (by have:=hi0.q0;have:=hi0.q1;dsimp only;omega);rintro next ⟨r,q⟩ h sC
    dsimp only at h⊢;rw[aaj hP2 h];have wr1:IntKind.wrap .u64 (r+y1)=r+y1:=Iu ⟨by have:=h.r0;omega,by have:=h.r1;unfold BB;omega⟩;refine Ab (λhc=>?_)<|λhc=>?_
    .have hc:=As hc;have hup:=(js hP2 h hc).1;have wq:IntKind.wrap .u64 (q-1)=q-1:=Iu ⟨A4,by have:=h.q1;unfold BB;omega⟩;simp only[wr1,wq];refine Ab (λhd=>?_)<|λhd=>?_
     .exact hk _<|ze hP2 h hc<|As hd
     .exact sC _ (aah hP2 h hc (by have:=Bh hd;omega)) BS
    .have hc:=Bh hc;exact hk _<|acP hP2 h (λa=>hc<| .inl a)<|λa=>hc<| .inr a
  .intro k hk;have hi0:=aai hP1;have w1:0<=N/y1:=LO hP1.n0 A4;have e1:IntKind.wrap .u64 (N-IntKind.wrap .u64 (N/y1*y1))=N-N/y1*y1:=by have:=hi0.e;have:=hi0.r0;have:=hi0.r1;have h1:0<=N/y1*y1:=LN w1 A4;rw[Iu (n:=N/y1*y1) ⟨h1,A4⟩,Iu ⟨A4,by unfold BB;omega⟩]
   rw[e1];refine ET (λs:Int×Int=>HS y1 y0 N d1 s.1 s.2) (λs:Int×Int=>s.1.toNat) ?_ _ _ hi0 (by have:=hi0.q0;have:=hi0.q1;dsimp only;omega);rintro next ⟨q,r⟩ h sC
   dsimp only at h⊢;rw[aaj hP1 h];have wr1:IntKind.wrap .u64 (r+y1)=r+y1:=Iu ⟨by have:=h.r0;omega,by have:=h.r1;unfold BB;omega⟩;refine Ab (λhc=>?_)<|λhc=>?_
   .have hc:=As hc;have hup:=(js hP1 h hc).1;have wq:IntKind.wrap .u64 (q-1)=q-1:=Iu ⟨A4,by have:=h.q1;unfold BB;omega⟩;simp only[wr1,wq];refine Ab (λhd=>?_)<|λhd=>?_
    .exact hk _<|ze hP1 h hc<|As hd
    .exact sC _ (aah hP1 h hc (by have:=Bh hd;omega)) BS
   .have hc:=Bh hc;exact hk _<|acP hP1 h (λa=>hc<| .inl a)<|λa=>hc<| .inr a
theorem alP:(List.replicate n (0:Int)).getD m 0=0:=by grind
def zR{lo:Int}(hs:s<=64)(h:lo%2^s=0)(hl:lo<BB):lo+2^s<=BB:=by
 have e:=Oh lo<|2^s
 rw[h] at e;have h2:=dc hs;have p:=two_pos s
 generalize lo/2^s=k at*
 have hk:k<2^(64-s):=by
  rcases(show k<2^(64-s)\/2^(64-s)<=k by omega) with h'|h'
  .exact h'
  .have:=F0 h' (EY p);omega
 have:=F0 (show k+1<=2^(64-s) from hk)<|EY p
 rw[Dc,Ls] at this;omega
def aAz(hx:0<=x)(hy:0<=y)(hs:y<2^s)(hd:x%2^s=0)(hw:x+y<BB):Ge .or .u64 y x=x+y:=by rw[<-ab6 hx hy hs hd hw];unfold Ge;dsimp only;rw[BitVec.or_comm]
theorem wV(ha:okW a)(hs:s<=63)(hl:a.length<2199023255552):Yd (λw=>okW w/\w.length=a.length+1/\AM w=AM a*2^s) (Y9 a (s:Int)):=by
 unfold Y9;refine A5 BH<|A5 (Py A4 A4 A4) ?_
 have ps:=two_pos s;refine ET (λt:A3 Int×Int=>okW t.1/\t.1.length=a.length+1/\0<=t.2/\t.2<=a.length/\t.1.getD t.2.toNat 0<2^s/\(∀m,t.2.toNat<m->t.1.getD m 0=0)/\AM (t.1.take<|t.2.toNat+1)=AM (a.take t.2.toNat)*2^s)
  (λt:A3 Int×Int=>a.length-t.2.toNat) ?_ _ _ ⟨VS _,by simp only[Nv];omega,BS,BS,?_,?_,?_⟩ BS
 rotate_left
 .grind
 .grind
 .dsimp only;rw[Zk,lY];simp[AM]
 rintro next ⟨o,i⟩ ⟨h1,h2,h3,h4,h5,h6,h7⟩ hn
 simp only at h1 h2 h3 h4 h5 h6 h7 hn⊢;obtain⟨n,rfl⟩:=FA h3;simp only[Ci,Mg] at*;refine Ab (λhc=>?_)<|λhc=>?_
 .have hc:=As hc;refine DZ (λp:A3 Int=>okW p/\p.length=a.length+1/\p.getD (n+1) 0<2^s/\(∀m,n+1<m->p.getD m 0=0)/\AM (p.take<|n+2)=AM (a.take<|n+1)*2^s) ?_ ?_
  .rintro p ⟨g1,g2,g3,g4,g5⟩;refine A5 BH<|hn _ ⟨g1,g2,BS,BS,?_⟩ BS
   have e:(((n:Nat):Int)+1).toNat=n+1:=A4;simp only[e];exact⟨g3,g4,g5⟩
  .intro k hk;let⟨lo,hi,b1,b2,b3,b4,b5,b6,b7,b8⟩:=wR (x:=a.getD n 0) (s:=s) A4<|G3 ha n
   have ad4:=zR A4 b7 b4;have ho:=G3 h1 n;have eor:Ge .or .u64 (o.getD n 0) lo=lo+o.getD n 0:=aAz b3 ho.1 h5 b7 A4;refine A5 (Bm A4)<|A5 (Bm A4)<|A5 (Bm A4)<|A5 b1<|A5 (Bm A4)<|A5 (Bm A4) ?_
   rw[eor];have L1:hi<BB:=AK;have sF:AM (o.take n)+B3 n*o.getD n 0=AM (a.take n)*2^s:=by rw[<-h7,FL]
   have Kq:AM (o.take n)+B3 n*(lo+o.getD n 0)+B3 (n+1)*hi=AM (a.take<|n+1)*2^s:=by rw[FL a,IB,<-sF,FW,b8,Dc,Dc,JX,GQ<|B3 n,FW BB];omega
   refine Ab (λhd=>?_)<|λhd=>?_
   .have hd:=As hd;have e1:((n:Nat):Int)+1=((n+1:Nat):Int):=A4;rw[e1];refine A5 BH<|A5 BH<|A5 b2 ?_
    refine A5 (Bm (by rw[LP];omega)) (A5 (Bm (by rw[LP];omega)) ?_);simp only[Ci];refine hk _ ⟨Kd (Kd h1 _ ⟨A4,A4⟩) _ ⟨b5,L1⟩,by simpa using h2,?_,?_,?_⟩
    .grind
    .intro m hm;rw[getD_set_ne A4,getD_set_ne A4];exact h6 m A4
    .rw[FL,HJ<|BQ _,J7 (by rw[LP];omega),FL,HJ<|BQ _,J7 A4];exact Kq
   .have hd:=Bh hd;have hs0:s=0:=A4;subst hs0;have atX:hi=0:=AK;subst atX;refine hk _ ⟨Kd h1 _ ⟨A4,A4⟩,by simpa using h2,?_,?_,?_⟩
    .grind
    .intro m hm;rw[getD_set_ne A4];exact h6 m A4
    .have e2:(o.set n<|lo+o.getD n 0).getD (n+1) 0=0:=by rw[getD_set_ne A4,h6 _ A4]
     rw[FL,e2,FL,HJ<|BQ _,J7 A4];exact Kq
 .have hc:=Bh hc;have HR:n=a.length:=A4;subst HR;refine AW ⟨h1,h2,?_⟩;rw[D6 (l:=o) A4,D6 (l:=a) A4] at h7;exact h7
def jk{m:Int}(hP:0<P)(hU:UL<P)(hV:0<=VL)(hm:0<=m)(h:X+1<=m*Y):UL+P*X<m*(VL+P*Y):=by
 have h1:=F0 h<|EY hP
 rw[Dc,Ls] at h1;have h2:0<=m*VL:=LN hm hV;rw[Dc,GQ m P Y];omega
theorem ano{r:Int}(e:q*v1+r=U2)(h:BB*r+u0<q*v0):(u0+BB*U2)+1<=q*(v0+BB*v1):=by grind
def anp{r:Int}(e:q*v1+r=U2)(hr:r<v1)(hu:u0<BB)(hq:0<=q)(hv:0<=v0):(u0+BB*U2)+1<=(q+1)*(v0+BB*v1):=by rw[Dc,GQ _ BB v1,<-e,IB q 1 v1,JA];have:0<=(q+1)*v0:=LN A4 hv;unfold BB at*;omega
def anq{R:Int}(e:q*v1+R=U2)(hq:0<=q/\q<BB)(hR:0<=R)(Hy:0<=v0/\v0<BB)(hu0:0<=u0)(hv1:BB<=2*v1)(h:BB<=R\/q*v0<=BB*R+u0)
 (hP:0<P)(hU:0<=UL)(hV:VL<P)(hV0:0<=VL):(q-1)*(VL+P*(v0+BB*v1))<=UL+P*(u0+BB*U2):=by
 have hY:q*(v0+BB*v1)<=u0+BB*U2:=by
  rw[Dc,GQ q BB v1,<-e,Dc];have:q*v0<=BB*R+u0:=by
   rcases h with h|h
   .have:q*v0<=(BB-1)*(BB-1):=Pf A4 A4 Hy.1 (by unfold BB;omega);unfold BB at*;omega
   .exact h
  omega
 have h1:=F0 hY<|EY hP
 have h2:q*VL<=BB*P:=Pf A4 A4 hV0 (by unfold BB;omega);have h3:P*BB<=P*(v0+BB*v1):=F0 (by unfold BB at*;omega)<|EY hP
 rw[ZR,JA,Dc q,GQ q P];rw[FM P BB] at h3;omega
theorem apF{u1 u2:Int}(hP:0<P)(hU:0<=UL)(hu0:0<=u0)(hu1:0<=u1)(hV:VL<P)(Hy:v0<BB)(h:UL+P*(u0+BB*(u1+BB*u2))<BB*(VL+P*(v0+BB*v1))):u2<=v1:=by
 rcases(show v1<u2\/u2<=v1 by omega) with h'|h'
 .exfalso;have h1:BB*(v0+BB*v1+1)<=u0+BB*(u1+BB*u2):=AK;have h2:=F0 h1<|EY hP
  rw[GQ P BB,Dc P _ 1,Ls] at h2;rw[Dc BB VL] at h;rw[Dc BB _ P] at h2;have h3:BB*VL<=BB*P:=F0 A4 (by unfold BB;omega);omega
 .exact h'
theorem aiX(h:l.length=k+3):AM l=AM (l.take k)+B3 k*(l.getD k 0+BB*(l.getD (k+1) 0+BB*l.getD (k+2) 0)):=by have h1:AM (l.take<|k+3)=AM l:=AK;rw[<-h1,FL,FL,FL,JX<|k+1,JX,Dc,Dc,Dc,GQ (B3 k) BB,GQ (B3 k) BB,GQ (B3 k) BB,FW,FW,FW];omega
theorem aiY(h:l.length=k+2):AM l=AM (l.take k)+B3 k*(l.getD k 0+BB*l.getD (k+1) 0):=by have h1:AM (l.take<|k+2)=AM l:=AK;rw[<-h1,FL,FL,JX,Dc,GQ (B3 k) BB,FW];omega
def toNat_succ'(n:Nat):(((n:Nat):Int)+1).toNat=n+1:=by omega
theorem al3{u v:A3 Int}(hu:okW u)(hv:okW v)(hul:u.length=k+3)(hvl:v.length=k+2)(hk:k<2199023255552)(XH:BB<=2*v.getD (k+1) 0)(hlt:AM u<BB*AM v):Yd (λr=>okW r.1/\r.1.length=k+3/\(0<=r.2/\r.2<BB)/\AM u=r.2*AM v+AM r.1/\AM r.1<AM v) (fB u v):=by
 unfold fB;have eU:=aiX hul;have eV:=aiY hvl;let⟨bU0,bU1⟩:=Gp<|MP hu k
 let⟨bV0,bV1⟩:=Gp<|MP hv k
 rw[EK,EZ A4] at bU1 bV1;have hP:=Ln k;have hu0:=G3 hu k;have hu1:=G3 hu<|k+1
 have hu2:=G3 hu<|k+2
 have Hy:=G3 hv k;have hv1:=G3 hv<|k+1
 have hVP:0<=AM v:=(Gp hv).1;have hU0:0<=AM u:=(Gp hu).1;have e1:((v.length:Int)-1)=((k+1:Nat):Int):=A4;have e2:((v.length:Int)-2)=((k:Nat):Int):=A4;have e0:(v.length:Int)=((k+2:Nat):Int):=A4;rw[e1,e2,e0];have gA:∀{l:A3 Int},l.length=k+3->AB l ((k+2:Nat):Int)=some (l.getD (k+2) 0):=λh=>Bm A4
 refine A5 (gA hul)<|A5 (gA hul)<|A5 BH<|A5 (Bm A4) ?_
 have hV:AM v<B3 (k+2):=by have:=(Gp hv).2;rw[hvl] at this;exact this
 refine DZ (λs:Int×Int×Int=>(0<=s.1/\s.1<BB)/\(0<=s.2.1/\s.2.1<BB)/\(s.2.2=0\/s.2.2=1)/\s.1*v.getD (k+1) 0+(s.2.1+BB*s.2.2)=u.getD (k+1) 0+BB*u.getD (k+2) 0/\AM u<(s.1+1)*AM v) ?_ ?_
 rotate_left
 .intro KL ad2;refine Ab (λhc=>?_)<|λhc=>?_
  .have hc:=As hc;let⟨r,d,a1,a2,a3,a4,a5⟩:=Wi (X:=u.getD (k+1) 0) (Y:=v.getD (k+1) 0) (c:=0) hu1 hv1<| .inl rfl
   refine A5 BH<|A5 (Bm A4)<|A5 (Bm A4)<|A5 BH<|A5 (Bm A4)<|A5 a1 ?_
   have acN:u.getD (k+2) 0<=v.getD (k+1) 0:=apF hP bU0 hu0.1 hu1.1 bV1 Hy.2 (by rw[<-eU,<-eV];exact hlt);refine ad2 _ ⟨⟨BS,by dsimp only;unfold BB;omega⟩,⟨a2,a3⟩,a4,?_,?_⟩
   .dsimp only;unfold BB at*;omega
   .dsimp only;exact hlt
  .have hc:=Bh hc;refine A5 (gA hul)<|A5 (gA hul)<|A5 BH<|A5 (Bm A4)<|A5 (Bm A4)<|A5 BH<|A5 (Bm A4) ?_
   refine Au (yX ⟨hu2.1,A4⟩ hu1 hv1.2) ?_;rintro⟨q,r⟩ ⟨d1,d2,d3⟩;dsimp only at d1 d2 d3⊢;have ee:q*v.getD (k+1) 0+r=u.getD (k+1) 0+BB*u.getD (k+2) 0:=by rw[FM BB];omega
   refine ad2 _ ⟨d1,⟨d2.1,BS⟩,.inl rfl,BS,?_⟩;dsimp only;have:=jk hP bU1 bV0 (show 0<=q+1 by omega)<|anp ee d2.2 hu0.2 d1.1 Hy.1
   rw[<-eU,<-eV] at this;exact this
 rintro⟨q1,r1,c1⟩ ⟨s1,s2,s3,s4,s5⟩;dsimp only at s1 s2 s3 s4 s5⊢;refine DZ (λq:Int=>(0<=q/\q<BB)/\(q-1)*AM v<=AM u/\AM u<(q+1)*AM v) ?_ ?_
 rotate_left
 .intro k41 atW;refine ET (λs:Int×Int×Int=>(0<=s.1/\s.1<BB)/\(0<=s.2.1/\s.2.1<BB)/\(s.2.2=0\/s.2.2=1)/\s.1*v.getD (k+1) 0+(s.2.1+BB*s.2.2)=u.getD (k+1) 0+BB*u.getD (k+2) 0/\AM u<(s.1+1)*AM v)
   (λs:Int×Int×Int=>s.1.toNat) ?_ _ _ ⟨s1,s2,s3,s4,s5⟩ (by dsimp only;unfold BB at*;omega)
  rintro next ⟨q,r,c⟩ ⟨h1,h2,h3,h4,h5⟩ hn
  dsimp only at h1 h2 h3 h4 h5 hn⊢;have fin:(BB<=r+BB*c\/q*v.getD k 0<=BB*(r+BB*c)+u.getD k 0)->Yd _ (k41 q):=λhh=>by refine atW q ⟨h1,?_,h5⟩;have:=anq (P:=B3 k) (UL:=AM<|u.take k) (VL:=AM<|v.take k) h4 h1 (by unfold BB at*;omega) Hy hu0.1 XH hh hP bU0 bV1 bV0;rw[<-eU,<-eV] at this;exact this
  refine Ab (λhc=>?_)<|λhc=>?_
  .have hc:=As hc;subst hc;let⟨hi,lo,m1,m2,m3,m4,m5,m6⟩:=iA h1 Hy;refine A5 BH<|A5 (Bm A4)<|A5 m1 ?_
   have key:Yd (λr=>okW r.1/\r.1.length=k+3/\(0<=r.2/\r.2<BB)/\AM u=r.2*AM v+AM r.1/\AM r.1<AM v)
     (cond (((decide<|hi<r)||((decide<|hi=r)&&(decide<|lo<=u.getD k 0)))) (k41 q) (bd (AG ((k+1:Nat):Int)) λJM=>bd (AB v JM) λKv=>bd (Lr r Kv (0:Int)) λIT=>
     next (wr .u64<|q-(1:Int),IT.1,IT.2))):=by
    refine Ab (λhd=>?_)<|λhd=>?_
    .grind
    .have NT:BB*r+u.getD k 0<q*v.getD k 0:=by rw[m6];rw[Ki,Bool.and_eq_false_iff,Ih,Ih,Ih] at hd;unfold BB at*;omega
     let⟨z,d,a1,a2,a3,a4,a5⟩:=Wi (X:=r) (Y:=v.getD (k+1) 0) (c:=0) h2 hv1<| .inl rfl
     refine A5 BH<|A5 (Bm A4)<|A5 a1 ?_
     have hUq:=jk hP bU1 bV0 h1.1<|ano (q:=q) (r:=r) (v1:=v.getD (k+1) 0) (U2:=u.getD (k+1) 0+BB*u.getD (k+2) 0) A4 NT
     rw[<-eU,<-eV] at hUq;have hq1:1<=q:=AK;have ew:wr .u64 (q-1)=q-1:=Iu ⟨A4,A4⟩;rw[ew];refine hn _ ⟨⟨BS,BS⟩,⟨a2,a3⟩,a4,?_,?_⟩ BS
     .grind
     .grind
   have gO:∀{g:Bool} {e:A9 Int} {x:Int} {K:Int->A9 (A3 Int×Int)} {R:A3 Int×Int->Prop},e=some x->(g=true->Yd R (K x))->(g=false->Yd R (K 0))->Yd R (Ax g 0 e K):=λh a b=>GR (λhg=>⟨_,h,a hg⟩) b
   refine gO BH (λhg=>gO (Bm A4) (λko=>gO (Bm A4) (λhg2=>key) (λh=>by rw[hg] at h;cases h)) (λh=>by rw[hg] at h;cases h))<|λhg=>?_
   refine GR (λh=>by rw[hg] at h;cases h) (λ_=>GR (λh=>by rw[hg] at h;cases h)<|λ_=>?_);have hgd:(decide (hi<r)||(decide (hi=r)&&decide (lo<=(0:Int))))=(decide (hi<r)||(decide (hi=r)&&decide (lo<=u.getD k 0))):=by
    cases ha:decide (hi<r)
    .cases hb:decide (hi=r)
     .rfl
     .rw[ha,hb] at hg;exact absurd hg L9
    .rfl
   dsimp only at hgd⊢;rw[hgd];exact key
  .grind
 rintro q ⟨hq,atS,atQ⟩;refine ET (λs:A3 Int×Int×Int×Int=>okW s.1/\s.1.length=k+3/\(s.2.1=0\/s.2.1=1)/\(0<=s.2.2.1/\s.2.2.1<BB)/\0<=s.2.2.2/\s.2.2.2<=(k+2:Nat)/\(∀m,s.2.2.2.toNat<=m->s.1.getD m 0=u.getD m 0)/\
   AM (u.take s.2.2.2.toNat)-q*AM (v.take s.2.2.2.toNat)=AM (s.1.take s.2.2.2.toNat)-B3 s.2.2.2.toNat*(s.2.2.1+s.2.1))
  (λs:A3 Int×Int×Int×Int=>k+2-s.2.2.2.toNat) ?_ _ _ ⟨hu,hul,.inl rfl,⟨BS,by dsimp only;unfold BB;omega⟩,BS,BS,λ_ _=>rfl,by simp[AM]⟩ BS
 rintro next ⟨p,b,c,i⟩ ⟨h1,h2,h3,h4,h5,h6,h7,h8⟩ hn
 dsimp only at h1 h2 h3 h4 h5 h6 h7 h8 hn⊢;obtain⟨n,rfl⟩:=FA h5;simp only[Ci,Mg] at*;refine Ab (λhc=>?_)<|λhc=>?_
 .have hc:=As hc;let⟨hi,lo,m1,m2,m3,m4,m5,m6⟩:=iA hq<|G3 hv n
  let⟨z,d,a1,a2,a3,a4,a5⟩:=Wi (X:=lo) (Y:=c) (c:=0) ⟨m4,m5⟩ h4<| .inl rfl
  let⟨y,b',b1,b2,b3,b4,b5⟩:=pf (X:=p.getD n 0) (Y:=z) (c:=b) (G3 h1 n) ⟨a2,a3⟩ h3;refine A5 (Bm A4)<|A5 m1<|A5 a1<|A5 (Bm A4)<|A5 (Bm A4)<|A5 b1<|A5 (Bm A4)<|A5 (Bm A4)<|A5 BH ?_
  have ew:wr .u64 (hi+d)=hi+d:=Iu ⟨A4,by unfold BB at*;omega⟩;dsimp only;rw[ew];refine hn _ ⟨Kd h1 _ ⟨b2,b3⟩,by simpa using h2,b4,⟨BS,by dsimp only;unfold BB at*;omega⟩,BS,BS,?_,?_⟩ BS
  .grind
  .simp only[toNat_succ',Ci];rw[FL u,FL v,FL,HJ<|BQ _,J7 A4,<-h7 n (BQ _),JX];have k1:q*(AM (v.take n)+B3 n*v.getD n 0)=q*AM (v.take n)+B3 n*(q*v.getD n 0):=by rw[Dc,GQ q]
   have k2:B3 n*(p.getD n 0)-B3 n*(q*v.getD n 0)-B3 n*(c+b)=B3 n*y-BB*B3 n*(hi+d+b'):=AK;rw[k1];omega
 .have hc:=Bh hc;have HR:n=k+2:=A4;subst HR;let⟨y,b',b1,b2,b3,b4,b5⟩:=pf (X:=p.getD (k+2) 0) (Y:=c) (c:=b) (G3 h1 _) h4 h3;refine A5 (gA h2)<|A5 (gA h2)<|A5 b1<|A5 (gA h2)<|A5 (gA h2) ?_
  simp only[Ci];have okq:=Kd h1 (k+2) ⟨b2,b3⟩;have hlen:(p.set (k+2) y).length=k+3:=by rw[LP];exact h2
  have eW:AM (p.set (k+2) y)=AM (p.take<|k+2)+B3 (k+2)*y:=by
   have:AM ((p.set (k+2) y).take<|k+3)=AM (p.set (k+2) y):=by rw[D6 A4]
   rw[<-this,FL,HJ<|BQ _,J7 A4]
  have eU2:AM u=AM (u.take<|k+2)+B3 (k+2)*p.getD (k+2) 0:=by
   have:AM (u.take<|k+3)=AM u:=by rw[D6 A4]
   rw[<-this,FL,h7 _<|BQ _]
  rw[D6 (l:=v) A4] at h8;have main:AM u-q*AM v=AM (p.set (k+2) y)-B3 (k+3)*b':=by have k2:B3 (k+2)*p.getD (k+2) 0-B3 (k+2)*(c+b)=B3 (k+2)*y-BB*B3 (k+2)*b':=AK;rw[eW,eU2,show k+3=(k+2)+1 from rfl,JX<|k+2];omega
  have bW:=Gp okq;rw[hlen] at bW
  generalize hR:p.set (k+2) y=R at*
  rw[IB,JA] at atQ;rw[ZR,JA] at atS;refine Ab (λhd=>?_)<|λhd=>?_
  .have hd:=As hd;have hd:b'=0:=hd;rw[hd,UD] at main;refine AW ⟨okq,hlen,hq,?_,?_⟩
   .dsimp only;omega
   .dsimp only;omega
  .have hd:=Bh hd;have hd:b'=1:=AK;rw[hd,Ls] at main;have hq1:1<=q:=AK;refine ET (λs:A3 Int×Int×Int=>okW s.1/\s.1.length=k+3/\(s.2.1=0\/s.2.1=1)/\0<=s.2.2/\s.2.2<=(k+2:Nat)/\(∀m,s.2.2.toNat<=m->s.1.getD m 0=R.getD m 0)/\
     AM (s.1.take s.2.2.toNat)+B3 s.2.2.toNat*s.2.1=AM (R.take s.2.2.toNat)+AM (v.take s.2.2.toNat))
    (λs:A3 Int×Int×Int=>k+2-s.2.2.toNat) ?_ _ _ ⟨okq,hlen,.inl rfl,BS,BS,λ_ _=>rfl,by simp[AM]⟩ BS
   rintro Nz ⟨t,e,j⟩ ⟨g1,g2,g3,g4,g5,g6,g7⟩ hn3;dsimp only at g1 g2 g3 g4 g5 g6 g7 hn3⊢;obtain⟨m,rfl⟩:=FA g4;simp only[Ci,Mg] at*;refine Ab (λhf=>?_)<|λhf=>?_
   .have hf:=As hf;let⟨z,d,a1,a2,a3,a4,a5⟩:=Wi (X:=t.getD m 0) (Y:=v.getD m 0) (c:=e) (G3 g1 m) (G3 hv m) g3;refine A5 (Bm A4)<|A5 (Bm A4)<|A5 (Bm A4)<|A5 a1<|A5 (Bm A4)<|A5 (Bm A4)<|A5 BH ?_
    refine hn3 _ ⟨Kd g1 _ ⟨a2,a3⟩,by simpa using g2,a4,BS,BS,?_,?_⟩ BS
    .grind
    .simp only[toNat_succ',Ci];rw[FL R,FL v,FL,HJ<|BQ _,J7 A4,<-g6 m (BQ _),JX];have k2:B3 m*t.getD m 0+B3 m*v.getD m 0+B3 m*e=B3 m*z+BB*B3 m*d:=AK;omega
   .have hf:=Bh hf;have KV:m=k+2:=A4;subst KV;have hT:=G3 g1<|k+2
    refine A5 (gA g2)<|A5 (gA g2)<|A5 (gA g2)<|A5 (gA g2)<|AW ?_
    have ew:wr .u64 (q-1)=q-1:=Iu ⟨A4,A4⟩;have ew2:wr .u64 (t.getD (k+2) 0+e)=(t.getD (k+2) 0+e)%BB:=wrW _;rw[ew,ew2];have hm0:=Ly (t.getD (k+2) 0+e) (show BB≠0 by unfold BB;omega);have hm1:=LQ (t.getD (k+2) 0+e) (show 0<BB by unfold BB;omega);have hdm:=Oh (t.getD (k+2) 0+e) BB;have ht0:(t.getD (k+2) 0+e)/BB=0\/(t.getD (k+2) 0+e)/BB=1:=by unfold BB at*;omega
    generalize hM:(t.getD (k+2) 0+e)%BB=M at*
    generalize hT':(t.getD (k+2) 0+e)/BB=T at*
    have okz:=Kd g1 (k+2) ⟨hm0,hm1⟩;have hlz:(t.set (k+2) M).length=k+3:=by rw[LP];exact g2
    have eZ:AM (t.set (k+2) M)=AM (t.take<|k+2)+B3 (k+2)*M:=by
     have:AM ((t.set (k+2) M).take<|k+3)=AM (t.set (k+2) M):=by rw[D6 A4]
     rw[<-this,FL,HJ<|BQ _,J7 A4]
    have eR:AM R=AM (R.take<|k+2)+B3 (k+2)*t.getD (k+2) 0:=by
     have:AM (R.take<|k+3)=AM R:=by rw[D6 A4]
     rw[<-this,FL,g6 _<|BQ _]
    rw[D6 (l:=v) A4] at g7;have bZ:=Gp okz;rw[hlz] at bZ;have sum:AM (t.set (k+2) M)+B3 (k+3)*T=AM R+AM v:=by have k2:B3 (k+2)*t.getD (k+2) 0+B3 (k+2)*e=B3 (k+2)*M+BB*B3 (k+2)*T:=AK;rw[eZ,eR,show k+3=(k+2)+1 from rfl,JX<|k+2];omega
    have hpp:B3 (k+2)<=B3 (k+3):=ft A4;have hT1:T=1:=AK;rw[hT1,Ls] at sum;refine⟨okz,hlz,⟨BS,BS⟩,?_,?_⟩
    .grind
    .dsimp only;omega
def YW{A B r:Int}(h:A=q*B+r)(h0:0<=r)(h1:r<B):q=A/B/\r=A%B:=by
 have hB:B≠0:=A4;subst h;constructor
 .rw[Int.add_comm,Int.add_mul_ediv_right _ _ hB,Int.ediv_eq_zero_of_lt h0 h1];omega
 .rw[Int.add_comm,Int.add_mul_emod_self_right,UJ h0 h1]
theorem OK(h:n<l.length):l.drop n=l.getD n 0::l.drop (n+1):=by simp_all
def dz(h:n<l.length)(x:Int):(l.set n x).drop n=x::l.drop (n+1):=by rw[OK (by rw[LP];exact h),J7 h,iY A4]
def ag2(hb:okW b)(hbl:b.length=k+2)(hs:s<=63)(h1:BB<=2*(b.getD (k+1) 0*2^s))(h2:b.getD (k+1) 0*2^s<BB)
 (hw:Norm w)(hv:AM w=AM b*2^s):w.length=k+2/\BB<=2*w.getD (k+1) 0/\AM w<B3 (k+2)/\B3 (k+1)*2^s<=AM w:=by
 have ps:=two_pos s;have hP:=Ln<|k+1
 have IU:AM b=AM (b.take<|k+1)+B3 (k+1)*b.getD (k+1) 0:=by
  have:AM (b.take<|k+2)=AM b:=by rw[D6 A4]
  rw[<-this,FL]
 let⟨t0,t1⟩:=Gp<|MP hb<|k+1
 rw[EK,EZ A4] at t1;have ad4:=zR (s:=s) (lo:=b.getD (k+1) 0*2^s) A4 (Int.mul_emod_left _ _) h2;have hb0:=G3 hb<|k+1
 have hbt:1<=b.getD (k+1) 0:=by
  rcases(show 1<=b.getD (k+1) 0\/b.getD (k+1) 0=0 by omega) with h|h
  .exact h
  .rw[h,Int.zero_mul] at h1;unfold BB at h1;omega
 generalize b.getD (k+1) 0=t at*
 generalize AM (b.take<|k+1)=L at*
 have e:AM w=L*2^s+B3 (k+1)*(t*2^s):=by rw[hv,IU,IB,FW]
 have hL0:0<=L*2^s:=LN t0<|EY ps
 have hL1:L*2^s<B3 (k+1)*2^s:=Int.mul_lt_mul_of_pos_right t1 ps;have hg2:=F0 ad4<|EY hP
 rw[Dc] at hg2;have e3:B3 (k+2)=B3 (k+1)*BB:=by rw[JX<|k+1,FM]
 have hlt:AM w<B3 (k+2):=by rw[e,e3];omega
 have XI:B3 (k+1)*2^s<=AM w:=by
  have h3:B3 (k+1)*(1*2^s)<=B3 (k+1)*(t*2^s):=F0 (NH hbt<|EY ps)<|EY hP
  rw[JA] at h3;omega
 have arP:w.length<=k+2:=hw.len hlt;have Um:k+1<w.length:=by
  rcases Hl (k+1) w.length with h|h
  .exact h
  .have h5:=(Gp hw.1).2;have h6:=ft h;have h7:B3 (k+1)*1<=B3 (k+1)*2^s:=F0 A4<|EY hP
   omega
 refine⟨A4,?_,hlt,XI⟩;have hlen:w.length=k+2:=A4;have hsw:AM w=AM (w.take<|k+1)+B3 (k+1)*w.getD (k+1) 0:=by
  have:AM (w.take<|k+2)=AM w:=by rw[D6 A4]
  rw[<-this,FL]
 let⟨q0,q1⟩:=Gp<|MP hw.1<|k+1
 rw[EK,EZ A4] at q1
 generalize w.getD (k+1) 0=z at*
 rcases(show BB<=2*z\/2*(z+1)<=BB by unfold BB;omega) with h|h
 .exact h
 .exfalso;have h8:B3 (k+1)*(2*(z+1))<=B3 (k+1)*(2*(t*2^s)):=F0 A4<|EY hP
  rw[GQ,GQ _ 2,Dc,Ls] at h8;omega
def amH(h:okW l)(n:Nat):AM (l.take n)<=AM l:=by
 rcases Hl n l.length with h1|h1
 .rw[S2 l n A4];have:=LN (EY<|Ln n) (Gp<|SF h n).1;omega
 .rw[D6 h1];exact Int.le_refl _
def drop_zero(h:okW l)(hl:n<=l.length)(hv:AM l<B3 n):AM (l.drop n)=0:=by
 have h1:=S2 l n hl;have h2:=(Gp<|SF h n).1;have h3:=(Gp<|MP h n).1;rcases(show AM (l.drop n)=0\/1<=AM (l.drop n) by omega) with h4|h4
 .exact h4
 .have:=F0 h4 (EY<|Ln n);omega
def ahe(hs0:0<s)(hs:s<=63)(hx:0<=x/\x<BB)(hy:0<=y/\y<BB):∃lo:Int,Mo .u64 y ((64-s:Nat):Int)=some lo/\0<=Ge .or .u64 (x/2^s) lo/\Ge .or .u64 (x/2^s) lo<BB/\Ge .or .u64 (x/2^s) lo*2^s=x-x%2^s+BB*(y%2^s):=by
 have h2:=dc (s:=s) A4;have p1:=two_pos s;have p2:=two_pos<|64-s
 have r0:=Ly y (show(2:Int)^s≠0 by omega);have r1:=LQ y p1;have elo:y*2^(64-s)%BB=2^(64-s)*(y%2^s):=by rw[<-h2,FM y,FM<|2^s,Int.mul_emod_mul_of_pos _ _ p2]
 refine⟨2^(64-s)*(y%2^s),by rw[kG A4,elo],?_⟩;have l0:0<=2^(64-s)*(y%2^s):=LN (EY p2) r0;have d0:0<=x/2^s:=LO hx.1<|EY p1
 have d1:x/2^s<2^(64-s):=by refine Zp p1 ?_;rw[FM,h2];exact hx.2
 have hl:2^(64-s)*(y%2^s)+2^(64-s)<=BB:=by
  have:=F0 (show y%2^s+1<=2^s by omega)<|EY p2
  rw[Dc,Ls,FM _<|2^s,h2] at this;exact this
 rw[aAz (s:=64-s) l0 d0 d1 (Int.mul_emod_right _ _) A4];refine⟨A4,A4,?_⟩;have e:=Oh x<|2^s
 rw[IB,Int.mul_right_comm,FM<|2^(64-s),h2,FM<|x/2^s];omega
def xQ(ha:Norm a)(hb:Norm b)(h0:b≠[])(hla:a.length<2199023255552)(hlb:b.length<2199023255552):Yd (λr=>(Norm r.1/\AM r.1=AM a/AM b)/\Norm r.2/\AM r.2=AM a%AM b) (YM a b):=by
 unfold YM;have hbl:0<b.length:=by cases b;exact absurd rfl h0;simp
 have ha0:=(Gp ha.1).1;refine Au (uV ha hb A4 A4) λc hc=>?_
 refine Ab (λhlt=>?_)<|λhlt=>?_
 .have hlt:=As hlt;have hv:AM a<AM b:=by rcases hc with h|h|h<;>omega
  exact AW ⟨⟨Norm.nil,by rw[Int.ediv_eq_zero_of_lt ha0 hv];rfl⟩,ha,by rw[UJ ha0 hv]⟩
 have hlt:=Bh hlt;have hv:AM b<=AM a:=by rcases hc with h|h|h<;>omega
 have awQ:b.length<=a.length:=by
  rcases Hl a.length b.length with h|h
  .have:=YX ha.1 hb h;omega
  .exact h
 refine Ab (λh1=>?_)<|λh1=>?_
 ·
  have h1:=As h1;have hl1:b.length=1:=A4;obtain⟨y,rfl⟩:∃y,b=[y]:=by
   cases b with
   |nil=>cases hl1
   |cons x t=>cases t with|nil=>exact⟨x,rfl⟩|cons _ _=>simp at hl1
  have hy:0<y/\y<BB:=by
   have:=PV.1 hb.1;have h2:y≠0:=λe=>hb.2 (by rw[e];rfl)
   omega
  have eV:AM [y]=y:=by simp[AM]
  rw[eV] at hv⊢;refine A5 (Py A4 A4 A4)<|A5 BH ?_
  refine ET (λs:A3 Int×Int×Int=>okW s.1/\s.1.length=a.length/\(0<=s.2.1/\s.2.1<y)/\ -1<=s.2.2/\s.2.2<a.length/\AM (a.drop (s.2.2+1).toNat)=AM (s.1.drop (s.2.2+1).toNat)*y+s.2.1)
   (λs:A3 Int×Int×Int=>(s.2.2+1).toNat) ?_ _ _ ⟨VS _,by simp only[Nv];omega,⟨BS,BS⟩,BS,BS,?_⟩ BS
  rotate_left
  .have:((a.length:Int)-1+1).toNat=a.length:=A4;dsimp only;rw[this,Sc,NG AT];simp[AM]
  rintro next ⟨o,r,i⟩ ⟨g1,g2,g3,g4,g5,g6⟩ hn
  dsimp only at g1 g2 g3 g4 g5 g6 hn⊢;refine Ab (λhp=>?_)<|λhp=>?_
  .have hp:=As hp;obtain⟨n,rfl⟩:=FA hp;simp only[toNat_succ',Ci,Mg] at*;refine A5 (Bm A4)<|A5 (show AB [y] 0=some y from rfl) ?_
   refine Au (yX g3 (G3 ha.1 n) hy.2) ?_;rintro⟨q,z⟩ ⟨d1,d2,d3⟩;dsimp only at d1 d2 d3⊢;refine A5 (Bm A4)<|A5 (Bm A4)<|A5 BH ?_
   refine hn _ ⟨Kd g1 _ d1,by simpa using g2,d2,BS,BS,?_⟩ BS;have e:(((n:Nat):Int)-1+1).toNat=n:=A4;simp only[e];rw[OK A4,dz A4,Na,Na,g6,IB,Dc,FW,FM BB r];omega
  .have hp:=Bh hp;have hi:i= -1:=A4;subst hi;have g6:AM a=AM o*y+r:=g6;refine Au (SH g1 A4) λw ⟨w1,w2,_⟩=>?_
   refine Au (SH (a:=[r]) (PV.2 ⟨⟨g3.1,A4⟩,ZK⟩) AT) λz ⟨z1,z2,_⟩=>?_
   have er:AM [r]=r:=by simp[AM]
   let⟨u1,u2⟩:=YW g6 g3.1 g3.2;exact AW ⟨⟨w1,by dsimp only;rw[w2,u1]⟩,z1,by dsimp only;rw[z2,er,u2]⟩
 ·
  have h1:=Bh h1;obtain⟨k,hk⟩:∃k,b.length=k+2:=⟨b.length-2,A4⟩;have hbt:0<b.getD (k+1) 0:=by
   have h3:=(G3 hb.1<|k+1).1;rcases(show 0<b.getD (k+1) 0\/b.getD (k+1) 0=0 by omega) with h|h
   .exact h
   .refine absurd ?_ hb.2;rw[List.getLast?_eq_getElem?,show b.length-1=k+1 from by omega];rw[JB] at h;rw[Gs A4] at h⊢;simpa using h
  let⟨s,l1,l2,l3,l4⟩:=abc hbt (G3 hb.1<|k+1).2;have e1:((b.length:Int)-1)=((k+1:Nat):Int):=A4;rw[e1];refine A5 BH<|A5 (Bm A4)<|A5 l1 ?_
  refine Au (wV hb.1 l2 A4) λw0 ⟨p1,p2,p3⟩=>?_
  refine Au (SH p1 A4) λv ⟨v1,v2,_⟩=>?_
  rw[p3] at v2;let⟨v3,v4,v5,v6⟩:=ag2 hb.1 hk l2 l3 l4 v1 v2;refine Au (wV ha.1 l2 A4) λu0 ⟨q1,q2,q3⟩=>?_
  obtain⟨d,hd⟩:∃d,a.length=d+(k+2):=⟨a.length-(k+2),A4⟩;have e2:((a.length:Int)-(v.length:Int))=((d:Nat):Int):=A4;rw[e2,v3];refine A5 BH<|A5 BH<|A5 (Py A4 A4 A4)<|A5 BH ?_
  have ps:=two_pos s;have hV0:0<AM v:=by have:=Int.mul_pos (Ln<|k+1) ps;omega
  refine ET (λt:A3 Int×A3 Int×Int=>okW t.1/\t.1.length=a.length+1/\okW t.2.1/\t.2.1.length=d+1/\ -1<=t.2.2/\t.2.2<=d/\AM (t.1.drop (t.2.2+1).toNat)<AM v/\
    AM a*2^s=AM v*(B3 (t.2.2+1).toNat*AM (t.2.1.drop (t.2.2+1).toNat))+AM t.1)
   (λt:A3 Int×A3 Int×Int=>(t.2.2+1).toNat) ?_ _ _ ⟨q1,q2,VS _,by simp only[Nv];omega,BS,BS,?_,?_⟩ BS
  rotate_left
  .dsimp only;rw[toNat_succ'];have h3:=S2 u0 (d+1) A4;have h4:=(Gp<|MP q1<|d+1).1;rw[q3] at h3;have h5:=(Gp ha.1).2;have h6:AM a*2^s<B3 a.length*2^s:=Int.mul_lt_mul_of_pos_right h5 ps;rw[hd,show d+(k+2)=(d+1)+(k+1) from by omega,gY,FW] at h6;have h7:AM (u0.drop<|d+1)<B3 (k+1)*2^s:=by
    rcases(show AM (u0.drop<|d+1)<B3 (k+1)*2^s\/B3 (k+1)*2^s<=AM (u0.drop<|d+1) by omega) with h|h
    .exact h
    .have:=F0 h (EY<|Ln<|d+1);omega
   omega
  .dsimp only;rw[toNat_succ',NG AT,<-q3];simp[AM]
  rintro next ⟨u,o,j⟩ ⟨g1,g2,g3,g4,g5,g6,g7,g8⟩ hn
  dsimp only at g1 g2 g3 g4 g5 g6 g7 g8 hn⊢;refine Ab (λhp=>?_)<|λhp=>?_
  .have hp:=As hp;obtain⟨n,rfl⟩:=FA hp;simp only[toNat_succ',Ci,Mg] at*;have e3:(((n:Nat):Int)+((k+2:Nat):Int))=((n+(k+2):Nat):Int):=A4;have e4:(((n+(k+2):Nat):Int)+1)=((n+(k+3):Nat):Int):=A4;have e5:(((n+(k+3):Nat):Int)-((n:Nat):Int)).toNat=k+3:=A4;rw[e3];refine A5 BH ?_;rw[e4];refine A5 BH<|Yd.gC ?_ ?_
   .rw[B9 (show(0:Int)<=(n:Int) by omega),B9 (show((n:Nat):Int)<((n+(k+3):Nat):Int) by omega),B9 (show((n+(k+3):Nat):Int)<=(u.length:Int) by omega)]
    rfl
   rw[e5];have okd:=SF g1 n;have hdl:(u.drop n).length=a.length+1-n:=by rw[Ja,g2]
   have hw:((u.drop n).take<|k+3).length=k+3:=by rw[EK];omega
   have hdn:u.drop n=u.getD n 0::u.drop (n+1):=OK A4;have hun:=G3 g1 n;have XI:AM ((u.drop n).take<|k+3)<BB*AM v:=by
    rw[hdn,show k+3=(k+2)+1 from rfl,ie,Na];have h3:=amH (SF g1<|n+1)<|k+2
    unfold BB at*;omega
   have rz:AM (u.drop<|n+(k+3))=0:=by have:=drop_zero (SF g1<|n+1) (n:=k+2) (by rw[Ja];omega) A4;rw[Fe] at this;rw[show n+(k+3)=n+1+(k+2) from by omega];exact this
   refine Au (al3 (k:=k) (MP okd _) v1.1 hw v3 A4 v4 XI) ?_;rintro⟨w,q⟩ ⟨s1,s2,s3,s4,s5⟩;dsimp only at s1 s2 s3 s4 s5⊢;refine Yd.gC ?_ ?_
   .rw[s2,show Nat.blt 0 (k+3)=true from Ig A4,show Nat.ble (n+(k+3)) u.length=true from Ig A4,Nat.beq_refl]
    rfl
   refine A5 (Bm A4)<|A5 (Bm A4)<|A5 BH ?_
   have okt:=MP g1 n;have okz:=SF g1<|n+(k+3)
   have KS:(u.take n).length=n:=by rw[EK];omega
   have e7:(((n:Nat):Int)-1+1).toNat=n:=A4;have evu:AM u=AM (u.take n)+B3 n*AM ((u.drop n).take<|k+3):=by rw[S2 u n A4,S2 (u.drop n) (k+3) A4,Fe,rz,UD,WG]
   have evn:AM (u.take n++w++u.drop (n+(k+3)))=AM (u.take n)+B3 n*AM w:=by rw[Vb,Vb,rz,UD,WG,KS]
   have edn:(u.take n++w++u.drop (n+(k+3))).drop n=w++u.drop (n+(k+3)):=by rw[ID,Nl,NG A4,KS];simp
   refine hn _ ⟨xP.2 ⟨xP.2 ⟨okt,s1⟩,okz⟩,?_,Kd g3 _ s3,by simpa using g4,BS,BS,?_,?_⟩ BS
   .dsimp only;rw[DS,DS,KS,s2,Ja,g2];omega
   .dsimp only;rw[e7,edn,Vb,rz,UD,WG];exact s5
   .dsimp only;rw[e7,evn,dz A4,Na,g8,evu,s4,JX];have k1:AM v*(B3 n*(q+BB*AM (o.drop<|n+1)))=B3 n*(q*AM v)+AM v*(BB*B3 n*AM (o.drop<|n+1)):=by rw[Dc,Dc,GQ<|AM v,FM (AM v) q,GQ (B3 n) BB,FW BB]
    rw[k1,Dc];omega
  .have hp:=Bh hp;have hj:j= -1:=A4;subst hj;have g7:AM u<AM v:=g7;have g8:AM a*2^s=AM v*(B3 0*AM o)+AM u:=g8;rw[Yv,JA] at g8;have hu0:0<=AM u:=(Gp g1).1;have hue:AM u=2^s*(AM a-AM b*AM o):=by rw[UB,FM _<|AM a,g8,v2,FM<|AM b,FW];omega
   have ari:∃c:Int,BB=2^s*c:=⟨_,(dc (s:=s) A4).symm⟩;have atH:u.getD 0 0%2^s=0:=by
    let⟨c,hc⟩:=ari;have h3:u=u.getD 0 0::u.drop 1:=OK (n:=0) (l:=u) A4;have h4:AM u=u.getD 0 0+BB*AM (u.drop 1):=by rw[<-Na,<-h3]
    have h5:u.getD 0 0=2^s*(AM a-AM b*AM o-c*AM (u.drop 1)):=by rw[UB,<-hue,<-FW,<-hc];omega
    rw[h5,Int.mul_emod_right]
   refine ET (λt:A3 Int×Int=>okW t.1/\t.1.length=a.length+1/\0<=t.2/\t.2<=(k+2:Nat)/\(∀m,t.2.toNat<=m->t.1.getD m 0=u.getD m 0)/\
     AM (t.1.take t.2.toNat)*2^s=AM (u.take t.2.toNat)+B3 t.2.toNat*(u.getD t.2.toNat 0%2^s))
    (λt:A3 Int×Int=>k+2-t.2.toNat) ?_ _ _ ⟨g1,g2,BS,BS,λ_ _=>rfl,?_⟩ BS
   rotate_left
   .show AM (u.take 0)*2^s=AM (u.take 0)+B3 0*(u.getD 0 0%2^s);rw[atH];simp[AM]
   rintro FN ⟨r,i⟩ ⟨f1,f2,f3,f4,f5,f6⟩ IW;dsimp only at f1 f2 f3 f4 f5 f6 IW⊢;obtain⟨m,rfl⟩:=FA f3;simp only[Ci,Mg] at*;refine Ab (λhf=>?_)<|λhf=>?_
   .have hf:=As hf;refine DZ (λz:A3 Int=>okW z/\z.length=a.length+1/\(∀x,m+1<=x->z.getD x 0=u.getD x 0)/\AM (z.take<|m+1)*2^s=AM (u.take<|m+1)+B3 (m+1)*(u.getD (m+1) 0%2^s)) ?_ ?_
    .rintro z ⟨z1,z2,z3,z4⟩;refine A5 BH<|IW _ ⟨z1,z2,BS,BS,?_⟩ BS
     dsimp only;rw[toNat_succ'];exact⟨z3,z4⟩
    .intro k69 ad1;have hx:=G3 f1 m;have hx2:=G3 f1<|m+1
     have GZ:0<=r.getD m 0/2^s/\r.getD m 0/2^s<BB:=⟨LO hx.1<|EY ps,Int.lt_of_le_of_lt (Sb _ hx.1) hx.2⟩;refine A5 (Bm A4)<|A5 (Bm A4)<|A5 (kF A4)<|A5 (Bm A4)<|A5 (Bm A4) ?_
     have e8:(((m:Nat):Int)+1)=((m+1:Nat):Int):=A4;have Kq:∀z:Int,z*2^s=r.getD m 0-r.getD m 0%2^s+BB*(r.getD (m+1) 0%2^s)->(AM (r.take m)+B3 m*z)*2^s=AM (u.take<|m+1)+B3 (m+1)*(u.getD (m+1) 0%2^s):=by intro z hz;rw[<-f5 (m+1) A4,FL u,<-f5 m (BQ _),IB,f6,FW,hz,<-f5 m (BQ _),JX,Dc,UB,GQ (B3 m) BB,FW BB];omega
     refine GR (λhg=>?_)<|λhg=>?_
     .have hg:=As hg;refine⟨_,EL ⟨A4,A4⟩,Ab (λhh=>?_)<|λhh=>?_⟩
      .let⟨lo,b1,b2,b3,b4⟩:=ahe (s:=s) (x:=r.getD m 0) (y:=r.getD (m+1) 0) A4 l2 hx hx2;have Mp:(r.set m<|r.getD m 0/2^s).length=a.length+1:=by rw[LP];exact f2
       have e9:((64:Int)-(s:Int))=((64-s:Nat):Int):=A4;rw[e8,e9];refine A5 (Bm A4)<|A5 (Bm A4)<|A5 BH<|A5 (Bm A4)<|A5 (Bm A4)<|A5 BH ?_
       rw[getD_set_ne (show m+1≠m by omega),J7 (show m<r.length by omega)];refine A5 b1<|A5 (Bm A4)<|A5 (Bm A4) ?_
       refine ad1 _ ⟨Kd (Kd f1 _ GZ) _ ⟨b2,b3⟩,by simpa using f2,?_,?_⟩
       .intro x hxm;rw[getD_set_ne A4,getD_set_ne A4];exact f5 x A4
       .rw[FL,HJ<|BQ _,J7 A4,HJ<|BQ _];exact Kq _ b4
      .rw[B9 hg,Kg] at hh;have:=Bh hh;simp only[LP] at this;omega
     .have hg:=Bh hg;have hs0:s=0:=A4;subst hs0;refine Ab (λhh=>?_)<|λhh=>?_
      .exact absurd (As (EG hh).1) hg
      .refine ad1 _ ⟨Kd f1 _ GZ,by simpa using f2,?_,?_⟩
       .intro x hxm;rw[getD_set_ne A4];exact f5 x A4
       .rw[FL,HJ<|BQ _,J7 A4];refine Kq _ ?_;simp[Int.emod_one]
   .have hf:=Bh hf;have KV:m=k+2:=A4;subst KV;have hz:=drop_zero g1 (n:=k+2) A4 A4;have hz2:u.getD (k+2) 0=0:=aeu hz g1<|BQ _
    have hu:AM u=AM (u.take<|k+2):=by rw[S2 u (k+2) A4,hz];omega
    rw[hz2,Int.zero_emod,UD,WG,<-hu,hue,FM] at f6;have f7:AM (r.take<|k+2)=AM a-AM b*AM o:=Int.eq_of_mul_eq_mul_left A4 f6;have f8:AM (r.take<|k+2)<AM b:=by
     have h3:2^s*(AM a-AM b*AM o)<2^s*AM b:=by rw[<-hue,FM,<-v2];exact g7
     rw[f7];exact ir h3<|EY ps
    refine Au (SH g3 A4) λx ⟨x1,x2,_⟩=>?_
    refine A5 (EC A4 A4 A4) ?_;refine Au (SH (SF (MP f1 _) _) (by rw[Ja,EK];omega)) λz ⟨z1,z2,_⟩=>?_
    have z3:AM z=AM (r.take<|k+2):=z2;let⟨w1,w2⟩:=YW (A:=AM a) (B:=AM b) (q:=AM o) (r:=AM<|r.take<|k+2) (by rw[f7,FM];omega) (Gp<|MP f1 _).1 f8;exact AW ⟨⟨x1,by dsimp only;rw[x2];exact w1⟩,z1,by dsimp only;rw[z3];exact w2⟩
theorem qU(h:2^k<=n):k<=Nat.log2 n:=by have h0:n≠0:=AK;exact(Nat.le_log2 h0).2 h
def qC:∀n:Nat,B3 n=((2^(64*n):Nat):Int)
 |0=>rfl
 |n+1=>by rw[JX,qC n,show 64*(n+1)=64+64*n from by omega,N7,Sa];rfl
theorem Cm.len(h:Cm r z)(hz:D4 z=true):r.2.length<1099511627776:=by
 rcases h with⟨h,_⟩|⟨h0,h1,h2,h3,h4,h5⟩
 .rw[h];simp
 .have hl:=Tn h2 h0 h3;have hz:=Dx hz;have e:(z.natAbs:Int)=AM r.2:=AK;rw[qC,<-e] at hl;have hl:2^(64*(r.2.length-1))<=z.natAbs:=AK;have:=qU hl;omega
def pD{n:Int}(h:DW n):Vj n=some (n.natAbs:Int):=by
 unfold DW at h;unfold Vj;by_cases h0:n<0
 .rw[B9 h0];show some (wr .u64<|wr .i64<|0-n)=_;by_cases h1:n= -9223372036854775808
  .subst h1;rfl
  .have e1:wr .i64 (0-n)=0-n:=wrap_i64 ⟨A4,A4⟩;have e2:wr .u64 (0-n)=0-n:=wrap_u64 ⟨A4,A4⟩;rw[e1,e2]
   congr 1;omega
 .rw[CB h0];show some (wr .u64 n)=_;have e2:wr .u64 n=n:=wrap_u64 ⟨A4,A4⟩;rw[e2]
  congr 1;omega
theorem QS(h:Cm r z):Yd (λp=>p.1=decide (z<0)/\Norm p.2/\AM p.2=(z.natAbs:Int)/\p.2.length<=r.2.length+1) (NV r):=by
 unfold NV;rcases h with⟨h1,h2,h3⟩|⟨h0,h1,h2,h3,h4,h5⟩
 .rw[h1];refine Ab (λhc=>by simp at hc)<|λ_=>?_
  rw[h2];refine Ab (λhc=>?_)<|λhc=>?_
  .have hc:=As hc;subst hc;exact AW ⟨rfl,Norm.nil,rfl,AT⟩
  .have hc:=Bh hc;refine A5 (pD h3) (AW ⟨rfl,⟨?_,?_⟩,by simp[AM],AT⟩)
   .rw[PV];unfold DW at h3;exact⟨⟨A4,by unfold BB;omega⟩,ZK⟩
   .simp;omega
 .have hv:=(Gp h2).1;refine Ab (λ_=>AW ⟨?_,⟨h2,h3⟩,?_,by dsimp;omega⟩)<|λhc=>?_
  .grind
  .grind
  .grind
def Tz(h:Norm w)(neg:Bool):Yd (λr=>Cm r<|bif neg then -AM w else AM w) (PM neg w):=by
 unfold PM;let⟨hw,hl⟩:=h
 match w,hw,hl with
 |[],_,_=>refine Ab (λ_=>AW (.inl ⟨rfl,by cases neg<;>rfl,by cases neg<;>(unfold DW;simp[AM])⟩)) (λhc=>by simp at hc)
 |[x],hw,hl=>
  rw[PV] at hw;let⟨⟨hx0,hx1⟩,_⟩:=hw;have ev:AM [x]=x:=by simp[AM]
  have hx:x≠0:=λe=>hl (by rw[e];rfl)
  have g0:AB [x] (0:Int)=some x:=rfl;rw[ev];refine Ab (λhc=>by simp at hc)<|λ_=>?_
  refine GR (λ_=>⟨x,g0,?_⟩) (λhc=>by simp[gd] at hc);refine Ab (λhc=>?_)<|λhc=>?_
  .let⟨hc,Io⟩:=EG hc;let⟨_,hc⟩:=EG hc;have hc:=As hc;subst Io;have e1:wr .i64 x=x:=wrap_i64 ⟨A4,A4⟩;exact A5 g0 (A5 (EL (by rw[e1];exact⟨A4,A4⟩)) (AW (.inl ⟨rfl,by rw[e1];rfl,by unfold DW;simp[BX];omega⟩)))
  .refine GR (λ_=>⟨x,g0,?_⟩) (λhc=>by simp[gd] at hc);refine Ab (λhd=>?_)<|λhd=>?_
   .let⟨_,hd'⟩:=EG hd;have awT:=As hd';rw[hd] at hc;have Io:neg=false:=by simpa using hc
    subst Io;have e1:wr .i64 x=x:=wrap_i64 ⟨A4,A4⟩;exact A5 g0 (AW (.inl ⟨rfl,by rw[e1];rfl,by unfold DW;simp[B8];omega⟩))
   .have NT:9223372036854775807<x:=by have:decide (([x].length:Int)=(1:Int))=true:=rfl;rw[this,Kg] at hd;have:=Bh hd;omega
    have Az:okW [x]:=by rw[PV];exact⟨⟨hx0,hx1⟩,ZK⟩
    refine Ab (λhn=>?_)<|λhn=>?_
    .subst hn;exact Yd.gC rfl (AW (.inr ⟨AT,.inr rfl,Az,hl,by rw[ev];simp,by rw[ev];exact NT⟩))
    .subst hn;exact Yd.gC rfl (AW (.inr ⟨AT,.inl rfl,Az,hl,by rw[ev];simp,by rw[ev];exact NT⟩))
 |x::y::l,hw,hl=>
  have NT:9223372036854775807<AM (x::y::l):=by have h1:=Tn hw AT hl;have h2:B3 1<=B3 ((x::y::l).length-1):=ft AT;have h3:B3 1=BB:=rfl;unfold BB at h3;omega
  have hn1:decide (((x::y::l).length:Int)=(1:Int))=false:=CB DJ;refine Ab (λhc=>by have:=As hc;simp at this;omega)<|λ_=>?_
  refine GR (λhc=>by simp only[gd] at hc;rw[hn1] at hc;cases hc)<|λ_=>?_
  refine Ab (λhc=>by rw[hn1] at hc;simp at hc)<|λ_=>?_
  refine GR (λhc=>by simp only[gd] at hc;rw[hn1] at hc;cases hc)<|λ_=>?_
  refine Ab (λhc=>by rw[hn1] at hc;simp at hc)<|λ_=>?_
  refine Ab (λhn=>?_)<|λhn=>?_
  .subst hn;exact Yd.gC rfl<|AW<| .inr ⟨AT,.inr rfl,hw,hl,AT,NT⟩
  .subst hn;exact Yd.gC rfl<|AW<| .inr ⟨AT,.inl rfl,hw,hl,AT,NT⟩
theorem W5(h:Cm r z):QJ r=some z.sign:=by
 unfold QJ
 congr 1
 unfold mx_ mn_;rcases h with⟨h1,h2,h3⟩|⟨h0,h1,h2,h3,h4,h5⟩
 .grind
 .grind
theorem SQ(h:Cm r z):Yd (λq=>Cm q<| -z) (OI r):=by
 unfold OI;refine Ab (λhc=>?_)<|λhc=>?_
 .let⟨h1,h2⟩:=EG hc;rw[GM,Ih] at h2;rcases h with⟨g1,g2,g3⟩|⟨h0,_⟩
  .unfold DW at g3;exact A5 BH (AW (.inl ⟨rfl,by dsimp;omega,by unfold DW;omega⟩))
  .grind
 .refine Au (QS h) λp ⟨p1,p2,p3,_⟩=>Au (Tz p2<| !p.1) λq hq=>AW ?_
  rw[p1,p3] at hq;by_cases hz:z<0
  .grind
  .grind
theorem qP(h:Cm r z):Yd (λq=>Cm q (z.natAbs:Int)) (YD r):=by
 unfold YD;have hs:r.1<0↔z<0:=by
  rcases h with⟨g1,g2,g3⟩|⟨h0,h1,h2,h3,h4,h5⟩
  .rw[g2]
  .grind
 refine Ab (λhc=>?_)<|λhc=>?_
 .have hc:=hs.1 (As hc);refine Au (SQ h) λq hq=>AW ?_
  rwa [show((z.natAbs:Nat):Int)= -z by omega]
 .have hc:=Bh hc;have: ¬z<0:=λh=>hc<|hs.2 h
  refine AW ?_;rwa [show((z.natAbs:Nat):Int)=z by omega]
theorem gz{s:Int×A3 Int}(hr:Cm r x)(hs:Cm s y)(hlr:r.2.length<2199023255552)(hls:s.2.length<2199023255552):Yd (λq=>Cm q<|x+y) (Td r s):=by
 unfold Td;refine DZ (λ_=>True) (λ_ _=>?_)<|λk hk=>Ab (λhc=>?_)<|λ_=>hk _ trivial
 .refine Au (QS hr) λp ⟨p1,p2,p3,p4⟩=>Au (QS hs) λq ⟨q1,q2,q3,q4⟩=>?_
  refine Ab (λhc=>?_)<|λhc=>?_
  .refine Au (ag1 p2.1 q2.1 A4 A4) λw ⟨w1,w2⟩=>Au (Tz w1 p.1) λz hz=>AW ?_
   rw[w2,p3,q3,p1] at hz;rw[p1,q1,Qh] at hc;by_cases h1:x<0
   .grind
   .grind
  .have hne: ¬(x<0↔y<0):=by intro h;rw[p1,q1] at hc;simp[h] at hc
   refine Au (uV p2 q2 A4 A4) λc hcmp=>Ab (λhd=>?_)<|λhd=>?_
   .have hd:=As hd;have hle:AM q.2<=AM p.2:=A4;have hlen:q.2.length<=p.2.length:=by
     rcases Hl p.2.length q.2.length with h|h
     .have:=YX p2.1 q2 h;omega
     .exact h
    refine Au (w7 p2.1 q2.1 hlen A4 hle) λw ⟨w1,w2⟩=>Au (Tz w1 p.1) λz hz=>AW ?_
    rw[w2,p3,q3,p1] at hz;by_cases h1:x<0
    .grind
    .grind
   .have hd:=Bh hd;have hle:AM p.2<=AM q.2:=A4;have hlen:p.2.length<=q.2.length:=by
     rcases Hl q.2.length p.2.length with h|h
     .have:=YX q2.1 p2 h;omega
     .exact h
    refine Au (w7 q2.1 p2.1 hlen A4 hle) λw ⟨w1,w2⟩=>Au (Tz w1 q.1) λz hz=>AW ?_
    rw[w2,p3,q3,q1] at hz;by_cases h1:y<0
    .grind
    .grind
 .let⟨h1,h2⟩:=EG hc;rw[WQ] at h1 h2;rcases hr with⟨_,e1,i1⟩|⟨h0,_⟩
  .rcases hs with⟨_,e2,i2⟩|⟨h0,_⟩
   .rw[e1,e2];unfold DW at i1 i2;refine Ab (λhd=>AW<| .inl ⟨rfl,?_,?_⟩)<|λ_=>hk _ trivial
    all_goals
     by_cases kR: -9223372036854775808<=x+y/\x+y<=9223372036854775807
     .first
      |exact wrap_i64 kR|exact kR
     .exfalso;rw[Qh] at hd;rcases Int.lt_or_lt_of_ne (show x+y≠0 by omega) with hlt|hgt
      .have e3:wr .i64 (x+y)=x+y+18446744073709551616:=by
        have:wr .i64 (x+y)=wr .i64 (x+y+18446744073709551616):=by unfold wr IntKind.wrap;simp[IntKind.bits,IntKind.signed]
        rw[this];exact wrap_i64 ⟨A4,A4⟩
       rw[e3] at hd;have a1:x<x+y+18446744073709551616:=A4;have a2: ¬0<y:=A4;simp[a1,a2] at hd
      .have e3:wr .i64 (x+y)=x+y-18446744073709551616:=by
        have:wr .i64 (x+y)=wr .i64 (x+y-18446744073709551616):=by unfold wr IntKind.wrap;simp[IntKind.bits,IntKind.signed]
        rw[this];exact wrap_i64 ⟨A4,A4⟩
       rw[e3] at hd;have a1: ¬x<x+y-18446744073709551616:=A4;have a2:0<y:=A4;simp[a1,a2] at hd
   .grind
  .grind
theorem pe(z:Int):D4 (-z)=D4 z:=by grind [D4]
def Wm(h:x.natAbs<=y.natAbs)(hy:D4 y=true):D4 x=true:=by
 unfold D4 at*;refine Ig ?_;have:=Dx hy;by_cases h0:x.natAbs=0
 .rw[h0];decide
 .have h1:Nat.log2 x.natAbs<=Nat.log2 y.natAbs:=(Nat.le_log2 A4).2 (Ch ((Nat.le_log2 h0).1<|BQ _) h);omega
def aaI{s:Int×A3 Int}(hr:Cm r x)(hs:Cm s y)(hx:D4 x=true)(hy:D4 y=true):Yd (λq=>Cm q<|x-y) (YA r s):=by
 unfold YA;refine Au (SQ hs) λn hn=>Au (gz hr hn (by have:=hr.len hx;omega) (by have:=hn.len (by rw[pe];exact hy);omega)) λq hq=>AW ?_
 rwa [Int.sub_eq_add_neg]
theorem aaM{s:Int×A3 Int}(hr:Cm r x)(hs:Cm s y)(hx:D4 x=true)(hy:D4 y=true):Yd (λq=>Cm q<|x*y) (Tc r s):=by
 have sgn:∀(b:Bool),b=(!(decide (x<0)==decide (y<0)))->(bif b then -((x.natAbs:Int)*(y.natAbs:Int)) else(x.natAbs:Int)*(y.natAbs:Int))=x*y:=AK;unfold Tc;refine DZ (λ_=>True) (λ_ _=>?_)<|λk hk=>Ab (λhc=>?_)<|λ_=>hk _ trivial
 .refine Au (QS hr) λp ⟨p1,p2,p3,p4⟩=>Au (QS hs) λq ⟨q1,q2,q3,q4⟩=>?_
  have l1:=hr.len hx;have l2:=hs.len hy;refine Au (ag0 p2.1 q2.1 A4 A4) λw ⟨w1,w2⟩=>Au (Tz w1<| !(p.1==q.1)) λz hz=>AW ?_
  rw[w2,p3,q3,sgn _ (by rw[p1,q1])] at hz;exact hz
 .let⟨h1,h2⟩:=EG hc;rw[WQ] at h1 h2;rcases hr with⟨_,e1,i1⟩|⟨h0,_⟩
  .rcases hs with⟨_,e2,i2⟩|⟨h0,_⟩
   .rw[e1,e2];unfold DW at i1 i2;have bx:(0:Int)<=(x.natAbs:Int)/\(x.natAbs:Int)<BB:=⟨A4,by unfold BB;omega⟩;have by':(0:Int)<=(y.natAbs:Int)/\(y.natAbs:Int)<BB:=⟨A4,by unfold BB;omega⟩;let⟨hi,lo,m1,m2,m3,m4,m5,m6⟩:=iA bx by';refine A5 (pD i1)<|A5 (pD i2)<|A5 m1<|Ab (λhd=>?_)<|λ_=>hk _ trivial
    let⟨d1,d2⟩:=EG hd;have d1:=As d1;have d2:=As d2;have e3:wr .i64 lo=lo:=wrap_i64 ⟨A4,A4⟩;have d1:hi=0:=d1;have hp:(x.natAbs:Int)*(y.natAbs:Int)=lo:=by rw[m6,d1];omega
    have s2:=sgn _ rfl;rw[hp] at s2;refine Ab (λhn=>?_)<|λhn=>?_
    .rw[hn] at s2;simp[BX] at s2;rw[e3];exact A5 BH (AW (.inl ⟨rfl,s2,by unfold DW;omega⟩))
    .rw[hn] at s2;simp[B8] at s2;rw[e3];exact AW (.inl ⟨rfl,s2,by unfold DW;omega⟩)
   .grind
  .grind
theorem anB{s:Int×A3 Int}(hr:Cm r x)(hs:Cm s y)(hx:D4 x=true)(hy:D4 y=true):mY r s=some (V5 x y):=by
 refine HG ?_;unfold mY;refine Ab (λhc=>?_)<|λ_=>Au (aaI hr hs hx hy) λq hq=>A5 (W5 hq)<|AW ?_
 .let⟨h1,h2⟩:=EG hc;rw[WQ] at h1 h2;rcases hr with⟨_,e1,i1⟩|⟨h0,_⟩
  .rcases hs with⟨_,e2,i2⟩|⟨h0,_⟩
   .rw[e1,e2];unfold V5;refine Ab (λh=>AW (by rw[h];rfl)) (λh=>Ab (λk=>AW (by rw[h,k];rfl)) (λk=>AW (by rw[h,k];rfl)))
   .grind
  .grind
 .unfold V5;rcases WS x y with h|h|h
  .grind
  .grind
  .grind
theorem ajQ(h:Cm r z)(hz:z≠ -9223372036854775808):cw r=some (bif IL z then(z,true) else(z.sign,false)):=by
 unfold cw
 congr 1
 rcases h with⟨h1,h2,h3⟩|⟨h0,h1,h2,h3,h4,h5⟩
 .unfold DW at h3;have:IL z=true:=by unfold IL;rw[B9 h3.1,B9 h3.2];rfl
  rw[this,h1,h2];rfl
 .have:IL z=false:=by
   unfold IL;rcases h1 with e|e
   .grind
   .grind
  rw[this];have hs:r.1=z.sign:=AK;have he:r.2.isEmpty=false:=AK;rw[hs,he];rfl
def qB{r:Int}(h0:0<y)(h:r+y*q=x)(h1:0<=r)(h2:r<y):q=x/y/\r=x%y:=by let⟨h3,h4⟩:=(Int.ediv_emod_unique h0).2 ⟨h,h1,h2⟩;exact⟨h3.symm,h4.symm⟩
def xW(h0:0<y):(0<=x->0<=x/y/\x/y<=x)/\(x<0->x<=x/y/\x/y<0):=by
 constructor
 .intro h;exact⟨LO h A4,Sb y h⟩
 .intro h;refine⟨(Int.le_ediv_iff_mul_le h0).2 ?_,Int.ediv_neg_of_neg_of_pos h h0⟩;have:x*y<=x*1:=Int.mul_le_mul_of_nonpos_left A4 A4;omega
theorem xR{s:Int×A3 Int}(hr:Cm r x)(hs:Cm s y)(hx:D4 x=true)(hy:D4 y=true)(h0:0<y):Yd (λq=>Cm q.1 (x/y)/\Cm q.2 (x%y)) (Xj r s):=by
 unfold Xj;have hm0:=Ly x (show y≠0 by omega);have hm1:=LQ x h0;have hdm:=Oh x y;refine Ab (λhc=>?_)<|λhc=>?_
 .let⟨hc,h3⟩:=EG hc;let⟨h1,h2⟩:=EG hc;rw[WQ] at h1 h2;rw[GM,Ih] at h3;rcases hr with⟨_,e1,i1⟩|⟨h0,_⟩
  .rcases hs with⟨_,e2,i2⟩|⟨h0,_⟩
   .rw[e1] at h3;rw[e1,e2];unfold DW at i1 i2;have t1:=Int.tmod_add_mul_tdiv x y;have hsm:=xW (x:=x) h0;have q1:Gv x y=some (x.tdiv y):=by unfold Gv;rw[CB A4];refine EL ?_;have a1:=Int.natAbs_tdiv_le_natAbs x y;exact⟨A4,A4⟩
    have q2:G9 x y=some (x.tmod y):=by unfold G9;rw[CB A4];rfl
    have b2:(0<=x->0<=x.tmod y/\x.tmod y<y)/\(x<0-> -y<x.tmod y/\x.tmod y<=0):=by refine⟨λh=>⟨Int.tmod_nonneg y h,Int.tmod_lt_of_pos x h0⟩,λh=>?_⟩;have h5:=Int.tmod_lt_of_pos (-x) h0;have h6:=Int.tmod_nonneg y (show 0<= -x by omega);rw[Int.neg_tmod] at h5 h6;omega
    refine A5 q1<|A5 q2<|DZ (λs=>s.1=x/y/\s.2=x%y) (λs ⟨s1,s2⟩=>AW ⟨.inl ⟨rfl,s1,?_⟩,.inl ⟨rfl,s2,?_⟩⟩)<|λk hk=>Ab (λhd=>?_)<|λhd=>?_
    .unfold DW;omega
    .unfold DW;omega
    .have hd:=As hd;let⟨e3,e4⟩:=qB (x:=x) (q:=x.tdiv y-1) (r:=x.tmod y+y) h0 (by rw[UB,Ls];omega) A4 A4;refine A5 BH<|A5 BH<|hk _ ⟨e3,e4⟩
    .grind
   .grind
  .grind
 .have l1:=hr.len hx;have l2:=hs.len hy;refine Au (QS hr) λp ⟨p1,p2,p3,p4⟩=>Au (QS hs) λq ⟨q1,q2,q3,q4⟩=>?_
  have hq0:q.2≠[]:=λe=>by rw[e] at q3;simp[AM] at q3;omega
  refine Au (xQ p2 q2 hq0 A4 A4) λd ⟨⟨d1,d2⟩,d3,d4⟩=>Au (Tz d1 p.1) λQ hQ=>Au (Tz d3 p.1) λR hR=>?_
  rw[d2,p3,q3,p1] at hQ;rw[d4,p3,q3,p1] at hR;have ey:(y.natAbs:Int)=y:=A4;rw[ey] at hQ hR;have am0:=Ly (x.natAbs:Int) (show y≠0 by omega);have am1:=LQ (x.natAbs:Int) h0;have adm:=Oh (x.natAbs:Int) y;refine A5 (W5 hR)<|DZ (λs=>Cm s.1 (x/y)/\Cm s.2 (x%y)) (λs hs=>AW hs)<|λk hk=>Ab (λhd=>?_)<|λhd=>?_
  .have hd:=As hd;have Io:(bif decide (x<0) then -((x.natAbs:Int)%y) else(x.natAbs:Int)%y)<0:=AK;by_cases hx0:x<0
   .rw[B9 hx0] at hQ hR Io;simp[BX] at hQ hR Io;have J1:(x.natAbs:Int)= -x:=A4;rw[J1] at hQ hR Io am0 am1 adm;let⟨e3,e4⟩:=qB (x:=x) (q:= -(-x/y)-1) (r:= -(-x%y)+y) h0 (by rw[UB,Ls,Int.mul_neg];omega) A4 A4;have hof:OL 1=some (1,[]):=rfl;have h1r:Cm (1,[]) 1:= .inl ⟨rfl,rfl,by unfold DW;omega⟩;have atN:D4 (-(-x/y))=true:=by refine Wm ?_ hx;have:=(xW (x:= -x) h0).1 A4;omega
    have atL:D4 (-(-x%y))=true:=by refine Wm ?_ hy;omega
    refine A5 hof (Au (aaI hQ h1r atN rfl) λa ha=>Au (gz hR hs (by have:=hR.len atL;omega) A4) λb hb=>hk _ ⟨?_,?_⟩)
    .rwa [e3] at ha
    .rwa [e4] at hb
   .grind
  .have hd:=Bh hd;refine hk _ ?_;by_cases hx0:x<0
   .rw[B9 hx0] at hQ hR hd;simp only[BX] at hQ hR hd;have J1:(x.natAbs:Int)= -x:=A4;rw[J1] at hQ hR hd am0 am1 adm;have hz: -x%y=0:=AK;let⟨e3,e4⟩:=qB (x:=x) (q:= -(-x/y)) (r:= -(-x%y)) h0 (by rw[Int.mul_neg];omega) A4 A4;rw[e3] at hQ;rw[e4] at hR;exact⟨hQ,hR⟩
   .grind
theorem qO{s:Int×A3 Int}(hr:Cm r x)(hs:Cm s y)(hx:D4 x=true)(hy:D4 y=true)(h0:y≠0):Yd (λq=>Cm q<|x.fdiv y) (YB r s):=by
 unfold YB;refine A5 (W5 hs)<|DZ (λt=>∃a b:Int,Cm t.1 a/\Cm t.2 b/\D4 a=true/\D4 b=true/\0<b/\a/b=x.fdiv y) ?_<|λk hk=>Ab (λhd=>?_)<|λhd=>?_
 .rintro t ⟨a,b,h1,h2,h3,h4,h5,h6⟩;refine Au (xR h1 h2 h3 h4 h5) λq ⟨hq,_⟩=>AW ?_
  rwa [h6] at hq
 .have hd:=As hd;have hn:y<0:=AK;refine Au (SQ hr) λa ha=>Au (SQ hs) λb hb=>hk _ ⟨-x,-y,ha,hb,by rw[pe];exact hx,by rw[pe];exact hy,A4,?_⟩
  rw[<-Int.fdiv_eq_ediv_of_nonneg _ (show 0<= -y by omega),Int.neg_fdiv_neg]
 .grind
def kJ(r:Int×A3 Int):Int:=if r.2=[] then r.1 else r.1*AM r.2
def Cm.val(h:Cm r z):kJ r=z:=by
 unfold kJ;rcases h with⟨h1,h2,_⟩|⟨h0,_,_,_,h4,_⟩
 .rw[if_pos h1,h2]
 .rw[if_neg h0,h4]
def muG(a b:Nat):Nat:=if b=0 then 0 else Nat.log2 (a*b)+1+(if a<b then 1 else 0)
def aaY(h:m<=n):Nat.log2 m<=Nat.log2 n:=by
 by_cases h0:m=0
 .subst h0;simp
 .exact qU<|Ch ((Nat.le_log2 h0).1<|BQ _) h
theorem pE{a b:Nat}(hb:b≠0):muG b (a%b)<muG a b:=by
 have hlt:=OS a (show b>0 by omega);unfold muG;rw[if_neg hb];by_cases h0:a%b=0
 .grind
 .rw[if_neg h0,if_neg (show¬b<a%b by omega)];by_cases J1:a<b
  .rw[if_pos J1,Sd J1,MV];omega
  .rw[if_neg J1];have h1:2*(a%b)<=a:=by have:=Nat.mod_add_div a b;have h2:1<=a/b:=(Nat.one_le_div_iff A4).2 A4;have h3:b*1<=b*(a/b):=Zj _ h2;omega
   have h2:2*(b*(a%b))<=a*b:=by have:=Zj b h1;rw[Nat.mul_left_comm,MV b a] at this;exact this
   have h3:b*(a%b)≠0:=Nat.mul_ne_zero hb h0;have h4:=aaY h2;have h5:Nat.log2 (2*(b*(a%b)))=Nat.log2 (b*(a%b))+1:=by rw[Nat.log2_two_mul h3]
   omega
def rI{a b:Nat}(ha:Nat.log2 a<1099511627776)(hb:Nat.log2 b<1099511627776):muG a b<18446744073709551616:=by
 unfold muG;have h1:a<2^(Nat.log2 a+1):=Nat.lt_log2_self;have h2:b<2^(Nat.log2 b+1):=Nat.lt_log2_self;have h3:Nat.log2 (a*b)<Nat.log2 a+1+(Nat.log2 b+1):=by
  by_cases h0:a*b=0
  .rw[h0];simp;omega
  .rw[Pb h0,N7];exact Nat.mul_lt_mul'' h1 h2
 split
 .omega
 .split<;>omega
theorem aaN{s:Int×A3 Int}(hr:Cm r x)(hs:Cm s y)(hx:D4 x=true)(hy:D4 y=true):Yd (λq=>Cm q (Int.gcd x y:Int)) (fO r s):=by
 unfold fO;refine Au (qP hr) λa ha=>Au (qP hs) λb hb=>?_
 have hx':=Dx hx;have hy':=Dx hy;refine ET (λt:(Int×A3 Int)×(Int×A3 Int)=>∃a b:Nat,Cm t.1 (a:Int)/\Cm t.2 (b:Int)/\Nat.gcd a b=Int.gcd x y/\D4 a=true/\D4 b=true) (λt:(Int×A3 Int)×(Int×A3 Int)=>muG (kJ t.1).natAbs (kJ t.2).natAbs) ?_ _ _ ⟨x.natAbs,y.natAbs,ha,hb,rfl,by simpa[D4] using hx,by simpa[D4] using hy⟩ ?_
 .rintro next ⟨p,q⟩ ⟨a,b,h1,h2,h3,h4,h5⟩ hn
  simp only at h1 h2 hn⊢;refine A5 (W5 h2)<|Ab (λhc=>?_)<|λhc=>?_
  .have hb0:b≠0:=λe=>by subst e;simp at hc
   refine Au (xR h1 h2 h4 h5 A4) λd ⟨_,hd⟩=>?_
   have hd':Cm d.2 ((a%b:Nat):Int):=AK;have hlt:=OS a (show b>0 by omega);refine hn _ ⟨b,a%b,h2,hd',?_,h5,Wm A4 h5⟩ ?_
   .rw[<-h3,SX b<|a%b,<-Nat.gcd_rec,SX]
   .dsimp only;rw[h2.val,hd'.val,h1.val];exact pE hb0
  .have hb0:b=0:=by rw[WV,Hm] at hc;have:=Int.sign_eq_zero_iff_zero.1 hc;omega
   subst hb0;refine AW ?_;rw[Nat.gcd_zero_right] at h3;rw[<-h3];exact h1
 .dsimp only;rw[ha.val,hb.val];exact rI (by show Nat.log2 x.natAbs<_;omega) (by show Nat.log2 y.natAbs<_;omega)
end
end Trn
namespace Go.Proofs
section
open Go.Shelf
def nQ:Go.Shelf.Ren:=⟨fun|166=>266|169=>267|240=>308|276=>343|n=>n,fun|0=>0|3=>3|9=>9|5=>5|72=>320|70=>317|37=>318|4=>4|20=>20|75=>303|80=>252|164=>382|n=>n,fun|n=>n⟩
def ane:Go.Proofs.Lays.n166 prog nQ:={
 mixed:=Trn.A6
 f166:=func266.trans<|congrArg some Trn.A6
 f240:=func308.trans<|congrArg some Trn.A6
 f276:=func343.trans<|congrArg some Trn.A6
 t0:=underlying0
 a0:=isAgg0
 z0:=sizeOf0
 v0:=zeroValue0
 t3:=underlying3
 a3:=isAgg3
 z3:=sizeOf3
 v3:=zeroValue3
 t4:=underlying4
 a4:=isAgg4
 z4:=sizeOf4
 v4:=zeroValue4
 t9:=underlying9
 a9:=isAgg9
 z9:=sizeOf9
 v9:=zeroValue9
 t20:=underlying20
 a20:=isAgg20
 z20:=sizeOf20
 v20:=zeroValue20
 t37:=underlying318
 a37:=isAgg318
 z37:=sizeOf318
 v37:=zeroValue318
 t70:=underlying317
 a70:=isAgg317
 z70:=sizeOf317
 v70:=zeroValue317
 t72:=underlying320
 a72:=isAgg320
 z72:=sizeOf320
 v72:=zeroValue320
 t75:=underlying303
 a75:=isAgg303
 z75:=sizeOf303
 v75:=zeroValue303
 t164:=underlying382
 a164:=isAgg382
 z164:=sizeOf382
 v164:=zeroValue382}
def ae1:Builder.Extra prog nQ:={
 sizeBuilder:=Trn.A6
 liesBuilder:=Trn.A6
 t5:=underlying5
 a5:=isAgg5
 z5:=sizeOf5
 v5:=zeroValue5
 infoByte:=Trn.A6
 cellsByte:=Trn.A6
 sizeByte:=Trn.A6
 neB5:=by decide}
end
end Go.Proofs
namespace Trn
section
open Go.Shelf
variable[D:DR]
variable{x c y:Int}{r:Int×Int}
def yv{l s:AA}{r:AA×Int×Unit}(hm:W7 l s=some r):J8 prog 266 [] (.I4 320 5<|lB l) (.I4 320 5<|lB r.1) [TS s] [TI .i64 r.2.1,tj r.2.2]:=ajs (ρ:=nQ) ane ae1 A6 hm
def aj0{l r:AA}(hm:Yj l=some r):J8 prog 267 [] (.I4 320 5<|lB l) .gone [] [TS r]:=aiQ (ρ:=nP) anc ae0 A6 hm
def index_one(c:UInt8):∀s:AA,Lib.index s [c]= -1\/0<=Lib.index s [c]
 |[]=> .inl rfl
 |b::l=>by have:=Lib.index_ge (b::l) [c];omega
def alr(c b:UInt8)(l:AA):Lib.cut (b::l) [c]=if c==b then([],l,true) else(b::(Lib.cut l [c]).1,(Lib.cut l [c]).2.1,(Lib.cut l [c]).2.2):=by
 have e:Lib.index (b::l) [c]=if c==b then 0 else if Lib.index l [c]== -1 then -1 else Lib.index l [c]+1:=by simp[Lib.index,List.isPrefixOf]
 unfold Lib.cut;rw[e];by_cases h:(c==b)=true
 .simp[h]
 .simp only[Bool.not_eq_true] at h;simp only[h];rcases index_one c l with h1|h1
  .simp[h1]
  .have h2: ¬Lib.index l [c]= -1:=A4;have h3:(0:Int)<=Lib.index l [c]+1:=A4;have h4:(Lib.index l [c]+1).toNat=(Lib.index l [c]).toNat+1:=A4;simp[h1,h2,h3,h4]
def gM(c:UInt8):∀(s pre:AA),cutAt c pre s=(pre.reverse++(Lib.cut s [c]).1,(Lib.cut s [c]).2.1,(Lib.cut s [c]).2.2)
 |[],pre=>by
  have:Lib.cut [] [c]=([],[],false):=by unfold Lib.cut;simp[Lib.index]
  simp[cutAt,this]
 |b::l,pre=>by
  rw[alr];unfold cutAt;by_cases h:(c==b)=true
  .have h':(b==c)=true:=by rw[Qh] at h⊢;exact h.symm
   simp[h,h']
  .have h':(b==c)=false:=by cases e:(b==c) with|false=>rfl|true=>exact absurd (by rw[Qh] at e⊢;exact e.symm) h
   simp only[Bool.not_eq_true] at h;simp[h,h',gM c l (b::pre)]
def arp{w:AR}{H:HV}(sub:∀r o,H r=some o->w.heap[r]? =some o)(gl:LY prog H):∃m,w.cell? ⟨0,0,none⟩=some (.int .i64 m):=by have hT:(prog.globals[0]?).map (·.type)=some 3:=A6;have:=gl 0 3 hT;have hu:prog.underlying 3=some (.int .i64):=A6;unfold Sp at this;rw[hu] at this;let⟨m,E,fr,e⟩:=this;exact⟨m,by simp[World.cell?,sub _ _ e]⟩
def acA{x y:AA}{r:AA×AA×Bool}(hm:jj x y=some r):AQ 185 [TS x,TS y] [TS r.1,TS r.2.1,Ay r.2.2]:=by
 match y,hm with
 |[c],hm=>
  obtain⟨hb,rfl⟩:=HK hm;have hb:x.length<4294967281:=Dx hb;refine S8 A6 λw H vs sub gl ha=>?_
  obtain⟨u,v,rfl,hu,hv⟩:=U8 ha;have hu:u= .string ⟨x.toArray⟩:=hu;have hv:v= .string ⟨#[c]⟩:=hv;subst hu;subst hv;let⟨m,hm⟩:=arp sub gl;refine(strings_Cut ⟨x.toArray⟩ ⟨#[c]⟩ m w (by simpa[ByteArray.size] using hb) hm).mono ?_;rintro e w' ⟨rfl,n,rfl⟩;refine⟨_,rfl,⟨⟨rfl,rfl,rfl,BQ _,λ_ _=>rfl⟩,H9.of<|UI _ _⟩,_,rfl,_,_,rfl,?_,_,_,rfl,?_,_,_,rfl,?_,rfl⟩
  .rw[gM];rfl
  .rw[gM];rfl
  .rw[gM];rfl
def af3(w:AR)(e:Ap)(s:ByteArray):Fc w.heap.size w (Lib.bytesWorld w e s):=⟨⟨by unfold Lib.bytesWorld World.freeze;split<;>rfl,by unfold Lib.bytesWorld World.freeze;split<;>rfl,by unfold Lib.bytesWorld World.freeze;split<;>rfl,by rw[Lib.bytesWorld_size];omega,λk hk=>Lib.bytesWorld_at_old w e s k hk⟩,H9.of (by unfold Lib.bytesWorld World.freeze;split<;>exact Qj _)⟩
def wj:∀(l:AA) (acc:Nat),l.all Dz=true->Lib.decFrom acc l=some (l.foldl (λn b=>10*n+(b.toNat-48)) acc)
 |[],acc,_=>rfl
 |b::l,acc,h=>by rw[OU,C9] at h;let⟨h1,h2⟩:=h;unfold Dz at h1;rw[C9] at h1;have h3:=Dx h1.1;have h4:=Dx h1.2;unfold Lib.decFrom Lib.digitVal;rw[if_pos ⟨h3,h4⟩];simp only[iP];rw[wj l _ h2,MV]
def ahO{s:AA}(h0:s.isEmpty=false)(h:s.all Dz=true):Lib.atoi s=some (BU s:Int):=by
 match s,h0,h with
 |b::l,_,h=>
  have hb:Dz b=true:=by rw[OU,C9] at h;exact h.1
  unfold Dz at hb;rw[C9] at hb;have h3:=Dx hb.1;have h5:(b==45)=false:=by cases e:b==45 with|false=>rfl|true=>rw[Qh] at e;subst e;exact absurd h3 L9
  have h6:(b==43)=false:=by cases e:b==43 with|false=>rfl|true=>rw[Qh] at e;subst e;exact absurd h3 L9
  have hd:Lib.decNat (b::l)=some (BU (b::l)):=by unfold Lib.decNat;rw[if_neg AT];exact wj _ 0 h
  show(if(b==45)=true then(Lib.decNat l).map λ(m:Nat)=> -(m:Int) else if(b==43)=true then(Lib.decNat l).map λ(m:Nat)=>(m:Int) else(Lib.decNat (b::l)).map λ(m:Nat)=>(m:Int))=_;rw[h5,h6,hd]
  rfl
def aon{x:AA}{r:Int×Unit}(hm:aP x=some r):AQ 253 [TS x] [TI .i64 r.1,tj r.2]:=by
 obtain⟨hb,rfl⟩:=HK hm;rw[C9,C9] at hb;let⟨⟨h1,h2⟩,h3⟩:=hb;have h1:x.isEmpty=false:=by simpa using h1
 have h2:=Dx h2;refine S8 A6 λw H vs sub gl ha=>?_
 obtain⟨u,rfl,hu⟩:=PY ha;have hu:u= .string ⟨x.toArray⟩:=hu;subst hu;refine(strconv_Atoi ⟨x.toArray⟩ (BU x:Int) (by simpa[ByteArray.size] using h2) (ahO h1 h3) w).mono ?_;rintro e w' ⟨rfl,t,rfl⟩;exact⟨_,rfl,af3 w 5 t,_,rfl,_,_,rfl,rfl,_,_,rfl,rfl,rfl⟩
def nY:BG AV->Sem AV:=λargs=>do
 let(x,y,b)<-Extern.MathBitsCarry.three "Sub64" args
 pure (Extern.MathBitsCarry.pair ((x+Extern.MathBitsCarry.m64-y-b)%Extern.MathBitsCarry.m64)<|if x<y+b then 1 else 0)
def aj5{P:CP}(X Y k:Nat)(hk:k<=1)(w:AR):(nY #[.int .u64 (X:Int),.int .u64 (Y:Int),.int .u64 (k:Int)]).run P w=.ok (Extern.MathBitsCarry.pair ((X+18446744073709551616-Y-k)%18446744073709551616)<|if X<Y+k then 1 else 0) w:=by have:k=0\/k=1:=A4;rcases this with rfl|rfl<;>rfl
def S7(h:HD x=true):∃n:Nat,x=n/\n<18446744073709551616:=by unfold HD at h;rw[C9,Hm,Hm] at h;obtain⟨n,rfl⟩:=FA h.1;exact⟨n,rfl,A4⟩
def xf(h:(decide (c=0)||decide (c=1))=true):∃k:Nat,c=k/\k<=1:=by
 rw[Qm,Hm,Hm] at h;rcases h with rfl|rfl
 .exact⟨0,rfl,A4⟩
 .exact⟨1,rfl,A4⟩
def yK{H:HV}{τ σ υ:Ty}{vs:A3 AV}(h:Ee H [τ,σ,υ] vs):∃v u t,vs=[v,u,t]/\τ.ok H v/\σ.ok H u/\υ.ok H t:=by let⟨v,rest,e,hv,hr⟩:=h;let⟨u,t,e2,hu,ht⟩:=U8 hr;subst e2;exact⟨v,u,t,e,hv,hu,ht⟩
def amN(M X Y k:Nat)(hY:Y<M)(hk:k<=1):(((X+M-Y-k)%M:Nat):Int)=((X:Int)-Y-k)%(M:Int):=by have:((X+M-Y-k:Nat):Int)=((X:Int)-Y-k)+M:=A4;rw[Int.natCast_emod,this,Int.add_emod_right]
def sub_lt(X Y k:Nat):((if X<Y+k then 1 else 0:Nat):Int)=bif decide ((X:Int)<Y+k) then 1 else 0:=by
 by_cases h:X<Y+k
 .have h':(X:Int)<(Y:Int)+(k:Int):=A4;simp[h,h']
 .have h': ¬(X:Int)<(Y:Int)+(k:Int):=A4;simp[h,h']
def U6(hm:Lr x y c=some r):qp prog 279 [TI .u64 x,TI .u64 y,TI .u64 c] [TI .u64 r.1,TI .u64 r.2]:=by
 unfold Lr at hm;cases hb:((HD x&&HD y)&&(decide (c=0)||decide (c=1)))
 .rw[hb] at hm;cases hm
 rw[hb] at hm;have hm:=Ez hm;subst hm;rw[C9,C9] at hb;let⟨⟨h1,h2⟩,h3⟩:=hb;obtain⟨X,rfl,hX⟩:=S7 h1;obtain⟨Y,rfl,hY⟩:=S7 h2;obtain⟨k,rfl,hk⟩:=xf h3;refine⟨λw H vs ha=>?_⟩;obtain⟨u,v,t,rfl,hu,hv,ht⟩:=yK ha;have hu:u= .int .u64 (X:Int):=hu;have hv:v= .int .u64 (Y:Int):=hv;have ht:t= .int .u64 (k:Int):=ht;subst hu;subst hv;subst ht;refine⟨.tuple #[.int .u64<|((X:Int)+Y+k)%18446744073709551616,.int .u64<|((X:Int)+Y+k)/18446744073709551616],w,?_,⟨Below.refl _ _,BQ _⟩,?_⟩
 .rw[run_callFunc_extern func279 A6 A6 A6 (e:=add64Entry) A6];show Result.andThen ((add64Entry #[.int .u64 (X:Int),.int .u64 (Y:Int),.int .u64 (k:Int)]).run prog w) _=_;rw[run_add64 _ _ _ A4 A4 A4 A4 w]
  rfl
 .exact⟨_,rfl,_,_,rfl,rfl,_,_,rfl,rfl,rfl⟩
def q9(hm:SU x y c=some r):qp prog 281 [TI .u64 x,TI .u64 y,TI .u64 c] [TI .u64 r.1,TI .u64 r.2]:=by
 unfold SU at hm;cases hb:((HD x&&HD y)&&(decide (c=0)||decide (c=1)))
 .rw[hb] at hm;cases hm
 rw[hb] at hm;have hm:=Ez hm;subst hm;rw[C9,C9] at hb;let⟨⟨h1,h2⟩,h3⟩:=hb;obtain⟨X,rfl,hX⟩:=S7 h1;obtain⟨Y,rfl,hY⟩:=S7 h2;obtain⟨k,rfl,hk⟩:=xf h3;refine⟨λw H vs ha=>?_⟩;obtain⟨u,v,t,rfl,hu,hv,ht⟩:=yK ha;have hu:u= .int .u64 (X:Int):=hu;have hv:v= .int .u64 (Y:Int):=hv;have ht:t= .int .u64 (k:Int):=ht;subst hu;subst hv;subst ht;refine⟨Extern.MathBitsCarry.pair ((X+18446744073709551616-Y-k)%18446744073709551616)<|if X<Y+k then 1 else 0,w,?_,⟨Below.refl _ _,BQ _⟩,?_⟩
 .rw[run_callFunc_extern func281 A6 A6 A6 (e:=nY) A6];show Result.andThen ((nY #[.int .u64 (X:Int),.int .u64 (Y:Int),.int .u64 (k:Int)]).run prog w) _=_;rw[aj5 _ _ _ hk w]
  rfl
 .refine⟨_,rfl,_,_,rfl,?_,_,_,rfl,?_,rfl⟩
  .exact congrArg (Value.int .u64)<|amN 18446744073709551616 X Y k hY hk
  .exact congrArg (Value.int .u64)<|sub_lt X Y k
def gS(hm:Qf x y=some r):AQ 225 [TI .u64 x,TI .u64 y] [TI .u64 r.1,TI .u64 r.2]:=by
 unfold Qf at hm;cases hb:(HD x&&HD y)
 .rw[hb] at hm;cases hm
 rw[hb] at hm;have hm:=Ez hm;subst hm;rw[C9] at hb;obtain⟨X,rfl,hX⟩:=S7 hb.1;obtain⟨Y,rfl,hY⟩:=S7 hb.2;refine S8 A6 λw H vs sub gl ha=>?_
 obtain⟨u,v,rfl,hu,hv⟩:=U8 ha;have hu:u= .int .u64 (X:Int):=hu;have hv:v= .int .u64 (Y:Int):=hv;subst hu;subst hv;refine(bits_Mul64 X Y hX hY w).mono ?_;rintro e w' ⟨rfl,rfl⟩;exact⟨_,rfl,Fc.refl _ _,_,rfl,_,_,rfl,congrArg (Value.int .u64) (by rw[Int.natCast_ediv,Sa];rfl),_,_,rfl,congrArg (Value.int .u64) (by rw[Int.natCast_emod,Sa];rfl),rfl⟩
def wD:∀(f n:Nat),n<2^f->Lib.bitLenAux f n=O0 n
 |0,n,h=>by
  have:n=0:=by simpa using h
  subst this;rfl
 |f+1,n,h=>by
  unfold Lib.bitLenAux O0;by_cases h0:n=0
  .subst h0;rfl
  .rw[if_neg h0,wD f (n/2) (by rw[SV] at h;omega)];have hb:Nat.beq n 0=false:=by cases e:Nat.beq n 0 with|false=>rfl|true=>exact absurd (EF e) h0
   rw[hb];unfold O0;by_cases h1:n/2=0
   .have:n=1:=A4;subst this;rfl
   .have hb2:Nat.beq (n/2) 0=false:=by cases e:Nat.beq (n/2) 0 with|false=>rfl|true=>exact absurd (EF e) h1
    rw[hb2];show 1+(Nat.log2 (n/2)+1)=Nat.log2 n+1
    conv=>rhs;rw[Nat.log2_def,if_pos A4]
    omega
def bitLen_eq{n:Nat}(h:n<18446744073709551616):Lib.bitLen n=O0 n:=wD 64 n h
def amX{r:Int}(hm:ZO x=some r):AQ 248 [TI .u64 x] [TI .i64 r]:=by
 unfold ZO at hm;cases hb:HD x
 .rw[hb] at hm;cases hm
 rw[hb] at hm;have hm:=Ez hm;subst hm;obtain⟨X,rfl,hX⟩:=S7 hb;refine S8 A6 λw H vs sub gl ha=>?_
 obtain⟨u,rfl,hu⟩:=PY ha;have hu:u= .int .u64 (X:Int):=hu;subst hu;refine(bits_Len64 (X:Int) w A4 A4).mono ?_;rintro e w' ⟨rfl,rfl⟩;exact⟨_,rfl,Fc.refl _ _,congrArg (Value.int .i64) (by rw[Ci,bitLen_eq hX])⟩
def abT{r:Int}(hm:Wo x=some r):AQ 301 [TI .u64 x] [TI .i64 r]:=by
 unfold Wo at hm;cases hb:HD x
 .rw[hb] at hm;cases hm
 rw[hb] at hm;have hm:=Ez hm;subst hm;obtain⟨X,rfl,hX⟩:=S7 hb;refine S8 A6 λw H vs sub gl ha=>?_
 obtain⟨u,rfl,hu⟩:=PY ha;have hu:u= .int .u64 (X:Int):=hu;subst hu;refine(bits_LeadingZeros64 (X:Int) w A4 A4).mono ?_;rintro e w' ⟨rfl,rfl⟩;exact⟨_,rfl,Fc.refl _ _,congrArg (Value.int .i64) (by rw[Ci,bitLen_eq hX])⟩
end
section
variable{k:Nat}{x y:Rat}{z:Int}{n j:Nat}{r:Int×A3 Int}{a b:Nat}
def aor:Bool:=(List.range 19).all λk=>decide<|YC (10,[]) (k:Int)=some ((10:Int)^k,[])
def ajH:aor=true:=A6
def ajR(h:k<=18):YC (10,[]) (k:Int)=some ((10:Int)^k,[]):=by
 have:=Dr.1 ajH k<|Ql.2 A4
 exact As this
theorem fH:∀(l:AA) (n:Nat),l.foldl (λn b=>10*n+(b.toNat-48)) n=n*10^l.length+BU l
 |[],n=>by simp[BU]
 |b::l,n=>by
  have e:BU (b::l)=(b.toNat-48)*10^l.length+BU l:=by show l.foldl (λn b=>10*n+(b.toNat-48)) (10*0+(b.toNat-48))=_;rw[fH l,Nat.mul_zero,Pd]
  rw[iP,fH l,e,Ke,E2,SV];have:10*n*10^l.length=n*(10^l.length*10):=AK;omega
def YN(l m:AA):BU (l++m)=BU l*10^m.length+BU m:=by show(l++m).foldl _ 0=_;rw[List.foldl_append,fH m];rfl
theorem ajY{b:UInt8}(h:Dz b=true):b.toNat-48<=9:=by simp_all [Dz]
def Qb:∀(l:AA),l.all Dz=true->BU l<10^l.length
 |[],_=>by simp[BU]
 |b::l,h=>by rw[OU] at h;let⟨h1,h2⟩:=EG h;have:=Qb l h2;have hb:=ajY h1;show(b::l).foldl _ 0<_;rw[iP,fH l,E2,SV];have:(10*0+(b.toNat-48))*10^l.length<=9*10^l.length:=LS _ A4;omega
def OP(h:z.natAbs<10^n)(hn:n<=100000000):D4 z=true:=by
 unfold D4;refine Ig ?_;rcases M1 z.natAbs with h0|h0
 .rw[h0];exact Ig AT|>Dx
 .have h1:(10:Nat)^n<=(2^4)^n:=qZ A4 n;rw[<-Nat.pow_mul] at h1;have:Nat.log2 z.natAbs<4*n:=(Pb A4).2 A4;omega
theorem al7{s:AA}(h:Jg s=some z):Yd (λq=>Cm q z) (fC s):=by
 have core:∀(ds:AA) (neg:Bool) (w:Int),(ds.all Dz&&Nat.blt ds.length 1000000)=true->w=(bif neg then -(BU ds:Int) else(BU ds:Int))->Yd (λq=>Cm q w) (lp 18446744073709551616 (λ(k6:(AA×(Int×A3 Int))->A9 _) (s5:AA×(Int×A3 Int))=>cond (decide<|(0:Int)<(s5.1.length:Int)) (bd (C5 s5.1 0<|mn_ (18:Int) (s5.1.length:Int)) λx8=>bd (aP x8) λBA=>bd (OL (10:Int)) λBK=>bd (YC BK<|mn_ (18:Int) (s5.1.length:Int)) λBk=>bd (Tc s5.2 Bk) λBW=>bd (OL BA.1) λC4=>bd (Td BW C4) λBx=>bd (C5 s5.1 (mn_ (18:Int) (s5.1.length:Int)) (s5.1.length:Int)) λDa=>k6 (Da,Bx)) (cond neg (bd (OI s5.2) λCq=>some Cq) (some s5.2))) (ds,(0,[]))):=by
  intro ds neg w hds hw;let⟨hd,hl⟩:=EG hds;have hl:ds.length<1000000:=Dx hl;refine ET (λt:AA×(Int×A3 Int)=>t.1.all Dz=true/\t.1.length<=ds.length/\∃v:Nat,Cm t.2 (v:Int)/\v<10^(ds.length-t.1.length)/\v*10^t.1.length+BU t.1=BU ds)
   (λt:AA×(Int×A3 Int)=>t.1.length) ?_ _ _ ⟨hd,BQ _,0,.inl ⟨rfl,rfl,by unfold DW;omega⟩,by dsimp;rw[Nat.sub_self];decide,by dsimp;omega⟩ (by dsimp;omega)
  rintro next ⟨ss,r⟩ ⟨h1,h2,v,h3,h4,h5⟩ hn
  dsimp only at h1 h2 h3 h4 h5 hn⊢;have hsv:D4 (v:Int)=true:=OP (n:=ds.length-ss.length) (by simpa using h4) A4;refine Ab (λhc=>?_)<|λhc=>?_
  .have hc:=As hc;obtain⟨m,hm,hm1,hm2,hm3⟩:∃m:Nat,mn_ 18 (ss.length:Int)=(m:Int)/\m<=18/\m<=ss.length/\0<m:=by
    unfold mn_;by_cases h:(ss.length:Int)<18
    .grind
    .rw[CB h];exact⟨18,rfl,A4,A4,A4⟩
   rw[hm];have hss:ss=ss.take m++ss.drop m:=(Oi m ss).symm;have hall:=h1;rw[hss,iM] at hall;let⟨a1,a2⟩:=EG hall;have hlt:(ss.take m).length=m:=AK;have hld:(ss.drop m).length=ss.length-m:=Ja;have Kq:=YN (ss.take m)<|ss.drop m
   rw[<-hss,hld] at Kq;have hb:=Qb _ a1;rw[hlt] at hb;have avu:BU (ss.take m)<10^18:=KA hb<|LR A4 hm1
   have awN:(10:Nat)^m<=10^18:=LR A4 hm1;have arl:((10:Int)^m)=((10^m:Nat):Int):=AK;have hat:aP (ss.take m)=some ((BU (ss.take m):Int),()):=by unfold aP;have e1:(ss.take m).isEmpty=false:=AK;have e2:Nat.ble (ss.take m).length 18=true:=Ig A4;rw[e1,e2,a1];rfl
   refine A5 (EC A4 A4 A4) ?_;have e0:(ss.take ((m:Nat):Int).toNat).drop ((0:Int)).toNat=ss.take m:=AT;rw[e0];refine A5 hat<|A5 (show OL 10=some (10,[]) from rfl)<|A5 (ajR hm1) ?_
   have hp:0<(10:Nat)^m:=ZQ A4;have hrp:Cm ((10:Int)^m,[]) ((10^m:Nat):Int):= .inl ⟨rfl,by dsimp only;exact arl,by unfold DW;omega⟩;have CX:(10:Nat)^18<10^19:=L9;have atK:D4 ((10^m:Nat):Int)=true:=OP (n:=19) (by simp[F9];omega) A4;refine Au (aaM h3 hrp hsv atK) λq hq=>?_
   refine A5 (show OL (BU (ss.take m):Int)=some ((BU (ss.take m):Int),[]) from rfl) ?_;have hrd:Cm ((BU (ss.take m):Int),[]) (BU (ss.take m):Int):= .inl ⟨rfl,rfl,by unfold DW;omega⟩;have auF:ds.length-(ss.drop m).length=(ds.length-ss.length)+m:=by rw[hld];omega
   have OD:v*10^m+BU (ss.take m)<10^(ds.length-(ss.drop m).length):=by rw[auF,N7];have:(v+1)*10^m<=10^(ds.length-ss.length)*10^m:=LS _ A4;rw[Ke,Lt] at this;omega
   have atJ:D4 ((v:Int)*((10^m:Nat):Int))=true:=by rw[<-Sa];exact OP (n:=ds.length-(ss.drop m).length) (by simp only[F9];omega) A4
   have hlq:=hq.len atJ;refine Au (gz hq hrd A4 AT) λq2 hq2=>?_
   refine A5 (EC A4 A4 A4) ?_;have e1:(ss.take ((ss.length:Nat):Int).toNat).drop ((m:Nat):Int).toNat=ss.drop m:=AT;rw[e1];refine hn _ ⟨a2,by dsimp;omega,v*10^m+BU (ss.take m),?_,OD,?_⟩ (by dsimp;omega)
   .grind
   .grind
  .have hc:=Bh hc;have h0:ss=[]:=LU A4;subst h0;have h5:v=BU ds:=by simpa[BU] using h5
   subst h5;subst hw;cases neg
   .exact Ab (λh=>by cases h)<|λ_=>AW h3
   .exact Ab (λ_=>Au (SQ h3) λq hq=>AW hq) (λh=>by cases h)
 have hp:∀b:Bool,(decide ((([45]:AA).length:Int)<=(s.length:Int))&&(s.take 1==[45]))=b->OF s [45]=some b:=by
  intro b hb;unfold OF;cases hc:decide ((([45]:AA).length:Int)<=(s.length:Int)) with
  |false=>rw[hc] at hb;rw[Pe] at hb;subst hb;rfl
  |true=>rw[hc] at hb;have hc:=As hc;show bd (C5 s 0<|(([45]:AA).length:Int)) _=_;rw[EC A4 A4 hc];exact congrArg some hb
 have pre:∀(b:Bool) (ds:AA),OF s [45]=some b->(b=true->s=45::ds)->(b=false->ds=s)->(ds.all Dz&&Nat.blt ds.length 1000000)=true->z=(bif b then -(BU ds:Int) else(BU ds:Int))->Yd (λq=>Cm q z) (fC s):=by
  intro b ds e1 e2 e2' e3 e4;unfold fC;refine A5 (x:=b) ?_<|A5 (x:=ds) ?_<|core ds b z e3 e4
  .unfold kn;rw[e1];rfl
  .unfold TP XQ;rw[e1];cases b
   .rw[e2' rfl];rfl
   .rw[e2 rfl];show bd (bd (C5 (45::ds) 1 (((45::ds:AA).length:Nat):Int)) _) _=_;rw[EC A4 (by rw[E2];omega)<|Int.le_refl _];show some _=some _;simp
 unfold Jg at h;split at h
 .rename_i ds;obtain⟨hb,rfl⟩:=HK h;refine pre true ds (hp true ?_) (λ_=>rfl) (λh=>by cases h) hb rfl;rw[B9 (show((([45]:AA).length:Nat):Int)<=(((45::ds:AA).length:Nat):Int) by simp[E2,UH];omega)]
  rfl
 .rename_i hne;obtain⟨hb,rfl⟩:=HK h;refine pre false s (hp false ?_) (λh=>by cases h) (λ_=>rfl) hb rfl;cases s with
  |nil=>rfl
  |cons c l=>
   have:c≠45:=λe=>hne l (by rw[e])
   have h2:((c::l).take 1==[45])=false:=by simp[this]
   rw[h2,ZW]
def ajT(h0:n≠0)(h1:2^k<=n)(h2:n<2^(k+1)):Nat.log2 n=k:=(Nat.log2_eq_iff h0).2 ⟨h1,h2⟩
theorem ak2{w:A3 Int}{t:Nat}(hw:okW w)(hl:w.length=k+1)(ht:w.getD k 0=(t:Int))(h0:t≠0):((AM w).toNat).log2=64*k+t.log2:=by
 have hs:AM w=AM (w.take k)+B3 k*(t:Int):=by have:AM (w.take<|k+1)=AM w:=AK;rw[<-this,FL,ht]
 let⟨b0,b1⟩:=Gp<|MP hw k
 rw[EK,EZ A4] at b1;rw[qC] at hs b1;let⟨L,hL⟩:=FA b0;rw[hL] at hs b1;have e:(AM w).toNat=L+2^(64*k)*t:=AK;have hL':L<2^(64*k):=AK;let⟨l1,l2⟩:=Yk h0;have hp:0<2^(64*k):=Nat.two_pow_pos _;have m1:2^(64*k)*2^t.log2<=2^(64*k)*t:=Zj _ l1;have m2:2^(64*k)*(t+1)<=2^(64*k)*2^(t.log2+1):=Zj _ l2;rw[<-N7] at m1 m2;rw[Nat.mul_add,Nat.mul_one] at m2;have hp2:0<2^(64*k+t.log2):=Nat.two_pow_pos _;rw[e];exact ajT A4 A4 (by rw[LM];omega)
theorem al9(h:Cm r z)(hz:D4 z=true):lg r=some (bif decide (z=0) then 0 else(Nat.log2 z.natAbs:Int)+1):=by
 refine HG ?_;unfold lg;have hlen:=h.len hz;refine Au (QS h) ?_;rintro⟨neg,w⟩ ⟨_,hw,hv,hl⟩;dsimp only at hw hv hl⊢;refine Ab (λhc=>?_)<|λhc=>?_
 .have hc:=As hc;have h0:w=[]:=LU A4;subst h0;have:z=0:=by have:(0:Int)=(z.natAbs:Int):=hv;omega
  subst this;exact AW rfl
 .have hc:=Bh hc;obtain⟨k,hk⟩:∃k,w.length=k+1:=⟨w.length-1,A4⟩;have e1:((w.length:Int)-1)=((k:Nat):Int):=A4;rw[e1];have ht:=G3 hw.1 k;let⟨t,ht'⟩:=FA ht.1;have h0:t≠0:=by intro e;subst e;refine hw.2 ?_;rw[List.getLast?_eq_getElem?,show w.length-1=k from by omega];rw[JB,Gs A4] at ht';rw[Gs A4];simpa using ht'
  have XJ:=ak2 hw.1 hk ht' h0;rw[hv,Ci] at XJ;have hz0:z≠0:=by
   intro e;subst e;have:=Tn hw.1 (by intro e;rw[e] at hk;simp at hk) hw.2;have hp:=Ln<|w.length-1
   rw[hv] at this;simp at this;omega
  have ht2:t<2^64:=AK;have apa:ZO (t:Int)=some ((t.log2:Int)+1):=by
   unfold ZO HD;rw[B9 (show(0:Int)<=(t:Int) by omega),B9 (show((t:Nat):Int)<18446744073709551616 by omega)];show some ((O0 ((t:Nat):Int).toNat:Nat):Int)=_;have:O0 t=Nat.log2 t+1:=by
    unfold O0;have:Nat.beq t 0=false:=by cases hb:Nat.beq t 0 with|false=>rfl|true=>exact absurd (EF hb) h0
    rw[this];rfl
   rw[Ci,this];rfl
  have hlt:t.log2<64:=(Pb h0).2 ht2;refine A5 BH<|A5 BH<|A5 BH<|A5 (Bm A4) ?_
  rw[ht'];refine A5 apa<|A5 BH<|AW ?_
  rw[CB hz0,XJ];simp only[B8];omega
theorem Cm.one(h:Cm r z):((List.isEmpty r.2)&&decide (r.1=(1:Int)))=decide (z=1):=by grind [Cm]
theorem al8{s:Int×A3 Int}{x y:Int}(hr:Cm r x)(hs:Cm s y)(hx:D4 x=true)(hy:D4 y=true)(h0:y≠0):Yd (λq=>Cm q.1 ((x:Rat)/(y:Rat)).num/\Cm q.2 (((x:Rat)/(y:Rat)).den:Int)) (nm r s):=by
 unfold nm;have en:((x:Rat)/(y:Rat)).num=(y.sign*x)/(Int.gcd y x:Int):=by rw[<-OY,iI]
 have ed:(((x:Rat)/(y:Rat)).den:Int)=(y.natAbs:Int)/(Int.gcd y x:Int):=by rw[<-OY,iH,if_neg h0];rfl
 rw[en,ed];refine A5 (W5 hs)<|DZ (λt=>Cm t.1 (y.sign*x)/\Cm t.2 (y.natAbs:Int)) ?_<|λk hk=>Ab (λhd=>?_)<|λhd=>?_
 .rintro⟨a,b⟩ ⟨ha,hb⟩;dsimp only at ha hb⊢;have hg:Int.gcd (y.sign*x) (y.natAbs:Int)=Int.gcd y x:=by
   rw[Int.gcd_comm];unfold Int.gcd;rw[K8,F9]
   congr 1
   rcases WS y 0 with h|h|h
   .grind
   .grind
   .grind
  have hg0:0<Int.gcd y x:=j7 _ h0;have sa:D4 (y.sign*x)=true:=Wm (y:=x) (by
   rw[K8];rcases WS y 0 with h|h|h
   .grind
   .grind
   .rw[Wa h];simp) hx
  have sb:D4 (y.natAbs:Int)=true:=Wm (y:=y) AT hy;rw[Cm.one hb];refine Ab (λhc=>?_)<|λhc=>?_
  .have hc:=As hc;have h1:Int.gcd y x=1:=by unfold Int.gcd;rw[show y.natAbs=1 from by omega,Nat.gcd_one_left]
   rw[h1];refine AW ⟨?_,?_⟩
   .grind
   .grind
  .refine Au (aaN ha hb sa sb) λg hgr=>?_
   rw[hg] at hgr;have sg:D4 (Int.gcd y x:Int)=true:=Wm (y:=y) (by rw[F9];exact Nat.le_of_dvd A4<|Nat.gcd_dvd_left _ _) hy
   refine Au (qO ha hgr sa sg A4) λp hp=>Au (qO hb hgr sb sg A4) λq hq=>AW ⟨?_,?_⟩
   .grind
   .grind
 .have hd:=As hd;have hn:y<0:=AK;refine Au (SQ hr) λa ha=>Au (SQ hs) λb hb=>hk _ ⟨?_,?_⟩
  .grind
  .grind
 .grind
def ab0:∀(f n:Nat) (acc:AA),n<f->bH f n acc=Lib.decDigits n++acc
 |0,n,_,h=>by omega
 |f+1,n,acc,h=>by
  unfold bH;by_cases h1:n<10
  .rw[show Nat.blt n 10=true from Ig h1,Lib.decDigits_one h1];rfl
  .have:Nat.blt n 10=false:=by cases hb:Nat.blt n 10 with|false=>rfl|true=>exact absurd (Dx hb) h1
   rw[this];show bH f (n/10) _=_;rw[ab0 f (n/10) _ A4]
   conv=>rhs;rw[Lib.decDigits,dif_neg h1]
   simp
def Wg(n:Nat):B5 n=Lib.decDigits n:=by unfold B5;rw[ab0 _ _ _ A4];simp
def OO(h:n<10):B5 n=[UInt8.ofNat<|48+n]:=by rw[Wg,Lib.decDigits_one h]
def S9(h: ¬n<10):B5 n=B5 (n/10)++[UInt8.ofNat<|48+n%10]:=by rw[Wg,Wg,Lib.decDigits,dif_neg h]
theorem MR:∀(k n:Nat),0<k->n<10^k->(B5 n).length<=k
 |0,_,h,_=>by omega
 |k+1,n,_,h=>by
  by_cases h1:n<10
  .rw[OO h1];simp
  .rw[S9 h1,DS];rcases M1 k with h0|h0
   .grind
   .have:=MR k (n/10) h0 (by rw[SV] at h;omega);simp;omega
def IK(k r:Nat):AA:=List.replicate (k-(B5 r).length) 48++B5 r
def ajL{r:Nat}(hk:0<k)(hr:r/10<10^k):IK (k+1) r=IK k (r/10)++[UInt8.ofNat<|48+r%10]:=by
 unfold IK;by_cases h:r<10
 .rw[show r/10=0 from by omega,OO h,OO (show 0<10 by omega),show r%10=r from by omega];have:List.replicate (k+1-1) (48:UInt8)=List.replicate (k-1) 48++[48]:=by rw[show k+1-1=(k-1)+1 from by omega,List.replicate_succ']
  simp only[Fw];rw[this];rfl
 .rw[S9 h,DS,Fw,show k+1-((B5<|r/10).length+1)=k-(B5<|r/10).length from by omega,ID]
def o8:∀(k q r:Nat),0<q->0<k->r<10^k->B5 (q*10^k+r)=B5 q++IK k r
 |0,_,_,_,h,_=>by omega
 |k+1,q,r,hq,_,hr=>by
  rw[SV] at hr⊢;have hp:0<10^k:=ZQ A4;have NT:10^k<=q*10^k:=Nat.le_mul_of_pos_left _ hq;rw[<-Nat.mul_assoc];rw[S9 A4,show(q*10^k*10+r)/10=q*10^k+r/10 from by omega,show(q*10^k*10+r)%10=r%10 from by omega];rcases M1 k with h0|h0
  .subst h0;have h9:r<10:=by simpa using hr
   rw[show r/10=0 from by omega,Nat.pow_zero,Nat.mul_one,UF];unfold IK;rw[OO h9,show r%10=r from by omega];rfl
  .rw[o8 k q (r/10) hq h0 A4,ajL h0 A4,ID]
def aCw(c:Nat):kK [48] c=List.replicate c 48:=by induction c with|zero=>rfl|succ c ih=>rw[List.replicate_succ,<-ih];rfl
def Norm.pos{w:A3 Int}(h:Norm w)(h0:w≠[]):0<AM w:=by
 have:=Tn h.1 h0 h.2;have:=Ln<|w.length-1
 omega
def ai5{r:Nat}(h:r<1000000000000000000):(B5 r).length<=18:=MR 18 r A4 (by simpa using h)
def alo{l:A3 AA}{x:AA}(h:l[n]? =some x):(l.drop n).reverse.flatten=(l.drop<|n+1).reverse.flatten++x:=by let⟨hn,e⟩:=FX.1 h;rw[US hn,e,List.reverse_cons,List.flatten_append];simp
theorem zr{l:A3 AA}(h:∀x∈l,x.length<=18):l.flatten.length<=18*l.length:=by induction l<;>grind
theorem ahs(h:Cm r z)(hz:D4 z=true):Yd (λs=>s=C8 z) (lK r):=by
 unfold lK;have hlen:=h.len hz;refine Ab (λhc=>?_)<|λhc=>?_
 .rcases h with⟨h1,h2,h3⟩|⟨h1,_⟩
  .have e:aO z=some (C8 z):=by
    unfold aO;have:IL z=true:=by unfold DW at h3;unfold IL;rw[B9 h3.1,B9 h3.2];rfl
    rw[this];rfl
   rw[h2];exact A5 e<|AW rfl
  .grind
 have NT:z.natAbs≠0:=by
  rcases h with⟨h1,_⟩|⟨h0,h1,h2,h3,h4,h5⟩
  .rw[h1] at hc;simp at hc
  .grind
 have XJ:Nat.log2 z.natAbs<1099511627776:=Dx hz;refine Au (QS h) ?_;rintro⟨neg,w0⟩ ⟨p1,p2,p3,p4⟩;dsimp only at p1 p2 p3 p4⊢;refine ET (λt:A3 Int×A3 AA=>Norm t.1/\(∀x∈t.2,x.length<=18)/\∃v:Nat,AM t.1=(v:Int)/\v<=z.natAbs/\t.2.length+(if v=0 then 0 else Nat.log2 v+1)<=Nat.log2 z.natAbs+1/\B5 z.natAbs=(if v=0 then [] else B5 v)++t.2.reverse.flatten)
  (λt:A3 Int×A3 AA=>if AM t.1=0 then 0 else Nat.log2 (AM t.1).toNat+1) ?_ _ _ ⟨p2,AT,z.natAbs,p3,BQ _,by dsimp only;rw[if_neg NT];simp,by dsimp only;rw[if_neg NT];simp⟩ (by dsimp only;rw[p3,Ci];split<;>omega)
 rintro next ⟨w,l⟩ ⟨h1,h2,v,h3,h4,h5,h6⟩ hn
 dsimp only at h1 h2 h3 h4 h5 h6 hn⊢;refine Ab (λhd=>?_)<|λhd=>?_
 .have hd:=As hd;have hw0:w≠[]:=by intro e;rw[e] at hd;simp at hd
  have Hy:v≠0:=by have:=h1.pos hw0;omega
  rw[if_neg Hy] at h5 h6;have hwl:w.length<=w0.length:=h1.len (by have:=(Gp p2.1).2;omega);have sF:Norm ([1000000000000000000]:A3 Int):=⟨by rw[PV];exact⟨⟨A4,by unfold BB;omega⟩,ZK⟩,AT⟩;refine Au (xQ h1 sF AT A4 AT) ?_;rintro⟨q,m⟩ ⟨⟨d1,d2⟩,d3,d4⟩;dsimp only at d1 d2 d3 d4⊢;have evb:AM ([1000000000000000000]:A3 Int)=1000000000000000000:=by simp[AM]
  rw[evb,h3] at d2 d4;have d2:AM q=((v/1000000000000000000:Nat):Int):=by rw[d2];rfl
  have d4:AM m=((v%1000000000000000000:Nat):Int):=by rw[d4];rfl
  have hml:v%1000000000000000000<1000000000000000000:=OS _ A4
  generalize hR:v%1000000000000000000=R at*
  refine DZ (λs=>s=B5 R) ?_ ?_
  rotate_left
  .intro k hk;refine Ab (λhe=>?_)<|λhe=>?_
   .have he:=As he;have hm1:m.length<=1:=d3.len (n:=1) (by rw[d4];unfold B3;unfold BB;omega);obtain⟨x,rfl⟩:∃x,m=[x]:=by
     cases m with
     |nil=>simp at he
     |cons x t=>cases t with|nil=>exact⟨x,rfl⟩|cons _ _=>simp at hm1
    have ex:x=(R:Int):=by rw[<-d4];simp[AM]
    subst ex;have ef:jS (R:Int) 10=some (B5 R):=by
     unfold jS HD;rw[B9 (show(0:Int)<=(R:Int) by omega),B9 (show((R:Nat):Int)<18446744073709551616 by omega)]
     rfl
    exact A5 (show AB [(R:Int)] 0=some (R:Int) from rfl)<|A5 ef<|hk _ rfl
   .have he:=Bh he;have hm0:m=[]:=LU A4;subst hm0;have:R=0:=by have:(0:Int)=(R:Int):=d4;omega
    subst this;exact hk _ rfl
  rintro s rfl;have hsl:=ai5 hml;refine DZ (λs=>s.length<=18/\B5 v=(if v/1000000000000000000=0 then [] else B5 (v/1000000000000000000))++s) ?_ ?_
  rotate_left
  .intro k hk;refine Ab (λhe=>?_)<|λhe=>?_
   .have he:=As he;have hq0:v/1000000000000000000≠0:=by intro e;have:=d1.pos (by intro e';rw[e'] at he;simp at he);rw[d2,e] at this;simp at this
    have er:jR [48] ((18:Int)-((B5 R).length:Int))=some (List.replicate (18-(B5 R).length) 48):=by
     unfold jR;rw[B9 (show(0:Int)<=(18:Int)-((B5 R).length:Int) by omega),B9 (show(18:Int)-((B5 R).length:Int)<=64 by omega)];show some (kK [48] ((18:Int)-((B5 R).length:Int)).toNat)=_;rw[aCw]
     congr 2
     omega
    have es:IJ (List.replicate (18-(B5 R).length) 48) (B5 R)=some (IK 18 R):=by unfold IJ;rw[B9 (by rw[Nv];omega)];rfl
    refine A5 BH<|A5 er<|A5 es<|hk _ ⟨?_,?_⟩
    .unfold IK;rw[DS,Nv];omega
    .rw[if_neg hq0];have:=o8 18 (v/1000000000000000000) R A4 A4 (by simpa using hml);rw[show(10:Nat)^18=1000000000000000000 from rfl] at this;rw[<-this]
     congr 1
     omega
   .have he:=Bh he;have hq:q=[]:=LU A4;subst hq;have hq0:v/1000000000000000000=0:=by have:(0:Int)=((v/1000000000000000000:Nat):Int):=d2;omega
    refine hk _ ⟨hsl,?_⟩;rw[if_pos hq0,Ie]
    congr 1
    omega
  rintro s ⟨s1,s2⟩;have ea:BN 16 l [s]=some (l++[s]):=by unfold BN;simp only[Fw];rw[B9 A4,B9 A4];rfl
  have ad6:v/1000000000000000000≠0->Nat.log2 (v/1000000000000000000)+1<=Nat.log2 v:=by
   intro hne;have:=(Yk hne).1;have h2:2^(Nat.log2 (v/1000000000000000000)+1)<=v:=by rw[SV];omega
   exact qU h2
  refine A5 ea<|hn _ ⟨d1,?_,v/1000000000000000000,d2,A4,?_,?_⟩ ?_
  .grind
  .grind
  .grind
  .grind
 .have hd:=Bh hd;have hw0:w=[]:=LU A4;subst hw0;have Hy:v=0:=by have:(0:Int)=(v:Int):=h3;omega
  subst Hy;rw[if_pos rfl] at h5 h6;rw[Ie] at h6;have hfl:=zr (l:=l.reverse)<|λx hx=>h2 x<|List.mem_reverse.1 hx
  rw[List.length_reverse] at hfl;have bw:∀a b:AA,a.length+b.length<=140737488355328->W7 a b=some (a++b,(b.length:Int),()):=by intro a b J1;unfold W7;rw[show Nat.ble (a.length+b.length) 140737488355328=true from Ig J1];rfl
  refine DZ (λs=>s.length<=1/\s++B5 z.natAbs=C8 z) ?_ ?_
  rotate_left
  .intro k hk;cases Io:decide (z<0) with
   |true=>
    rw[Io] at p1;subst p1;have et:C8 z=45::B5 z.natAbs:=by unfold C8;rw[Io];rfl
    refine Ab (λ_=>A5 (bw [] [45] AT) (hk ([]++[45]) ⟨AT,by rw[et];rfl⟩)) (λh=>by cases h)
   |false=>
    rw[Io] at p1;subst p1;have et:C8 z=B5 z.natAbs:=by unfold C8;rw[Io];rfl
    exact Ab (λh=>by cases h) (λ_=>hk [] ⟨AT,by rw[et];rfl⟩)
  rintro pre ⟨e1,e2⟩;refine A5 BH ?_;refine ET (λt:AA×Int=> -1<=t.2/\t.2<l.length/\t.1=pre++(l.drop (t.2+1).toNat).reverse.flatten) (λt:AA×Int=>(t.2+1).toNat) ?_ _ _ ⟨BS,BS,?_⟩ BS
  rotate_left
  .dsimp only;rw[show((l.length:Int)-1+1).toNat=l.length from by omega,Sc];simp
  rintro FN ⟨b,i⟩ ⟨g1,g2,g3⟩ IW;dsimp only at g1 g2 g3 IW⊢;refine Ab (λhp=>?_)<|λhp=>?_
  .have hp:=As hp;obtain⟨n,rfl⟩:=FA hp;have HR:n<l.length:=A4;have ex:AB l (n:Int)=some l[n]:=by show l[n]? =_;exact Gs HR
   have awL:l[n].length<=18:=h2 _<|Lz HR
   have au7:=zr (l:=(l.drop (((n:Nat):Int)+1).toNat).reverse)<|λx hx=>h2 x<|UO<|List.mem_reverse.1 hx
   rw[List.length_reverse,Ja] at au7;refine A5 ex (A5 ex (A5 (bw b l[n] (by rw[g3,DS];omega))<|A5 BH<|IW _ ⟨BS,BS,?_⟩ BS));dsimp only;rw[show(((n:Nat):Int)-1+1).toNat=n from by omega,g3,show(((n:Nat):Int)+1).toNat=n+1 from by omega,alo (x:=l[n])<|Gs HR,ID]
  .have hp:=Bh hp;have hi:i= -1:=A4;subst hi;have g3:b=pre++l.reverse.flatten:=g3;have eb:b=C8 z:=by rw[g3,<-h6,e2]
   have hne:(!b.isEmpty)=true:=by
    rw[eb];have hd:B5 z.natAbs≠[]:=λe=>by
     by_cases h:z.natAbs<10
     .rw[OO h] at e;cases e
     .rw[S9 h] at e;simp at e
    unfold C8;cases decide (z<0) with
    |true=>rfl
    |false=>show(!(B5 z.natAbs).isEmpty)=true;cases h:B5 z.natAbs with|nil=>exact absurd h hd|cons _ _=>rfl
   refine A5 (show Yj b=some b by unfold Yj;rw[hne];rfl)<|AW ?_
   exact eb
def GD(n:Nat)(k:Nat):Prop:=Nat.log2 n<k
def amK(ha:GD a j)(hb:GD b k):GD (a*b) (j+k+1):=by
 unfold GD at*;by_cases h0:a=0
 .subst h0;simp
 by_cases h1:b=0
 .subst h1;simp
 have h2:=(Yk h0).2;have h3:=(Yk h1).2;have h4:a*b<2^(Nat.log2 a+1)*2^(Nat.log2 b+1):=Nat.mul_lt_mul'' h2 h3;rw[<-N7] at h4;have:=(Pb<|Nat.mul_ne_zero h0 h1).2 h4;omega
theorem amL(ha:GD a k)(hb:GD b k):GD (a+b) (k+1):=by
 unfold GD at*;by_cases h0:a+b=0
 .rw[h0];simp
 have h2:a<2^k:=by
  by_cases h:a=0
  .grind
  .exact(Pb h).1 ha
 have h3:b<2^k:=by
  by_cases h:b=0
  .grind
  .exact(Pb h).1 hb
 exact(Pb h0).2 (by rw[SV];omega)
def ak8(h:a<=b)(hb:GD b k):GD a k:=Nat.lt_of_le_of_lt (aaY h) hb
theorem Sq(h:GD z.natAbs k)(hk:k<=1099511627776):D4 z=true:=by(simp_all [GD,D4]<;>omega)
theorem Tu{q:Rat}(h:FH q=true):GD q.num.natAbs 68719476736/\GD q.den 68719476736:=by simp_all [FH,GD]
theorem Jd{q:Rat}(h:GD q.den k):GD ((q.den:Int)).natAbs k:=by grind
def Qw{a b:Int}(ha:GD a.natAbs 68719476736)(hb:GD b.natAbs 68719476736):GD (a*b).natAbs 137438953473:=by rw[K8];exact amK ha hb
def aoa{a b:Int}(ha:GD a.natAbs 137438953473)(hb:GD b.natAbs 137438953473):GD (a+b).natAbs 137438953474:=ak8 (qW a b) (amL ha hb)
def abE{x y:Int}(hx:GD x.natAbs j)(hy:GD y.natAbs k)(hj:j<=1099511627776)(hk:k<=1099511627776):TK x y=some (x+y):=by unfold TK;rw[Sq hx hj,Sq hy hk];rfl
def UZ{x y:Int}(hx:GD x.natAbs j)(hy:GD y.natAbs k)(hj:j<=1099511627776)(hk:k<=1099511627776):KI x y=some (x*y):=by unfold KI;rw[Sq hx hj,Sq hy hk];rfl
def aoP{x y:Int}(hx:GD x.natAbs j)(hy:GD y.natAbs k)(hj:j<=1099511627776)(hk:k<=1099511627776):bL x y=some (V5 x y):=by unfold bL;rw[Sq hx hj,Sq hy hk];rfl
def pP{x y:Int}(hx:GD x.natAbs j)(hy:GD y.natAbs k)(hj:j<=1099511627776)(hk:k<=1099511627776)(h0:y≠0):Ou x y=some ((x:Rat)/(y:Rat)):=by unfold Ou;rw[Sq hx hj,Sq hy hk,CB h0];rfl
def zU(q:Rat):mkq q.num q.den=some q:=by obtain⟨d,hd⟩:∃d,q.den=d+1:=⟨q.den-1,by have:=q.den_pos;omega⟩;unfold mkq;have hr:=q.reduced;unfold Nat.Coprime at hr;rw[hd] at hr⊢;show ES (Nat.beq (Nat.gcd q.num.natAbs<|d+1) 1) (mkRat q.num<|d+1)=_;rw[hr,<-hd,WJ];rfl
def ZF(x y:Rat):(((x.num*y.den+y.num*x.den:Int)):Rat)/(((x.den:Int)*(y.den:Int):Int):Rat)=x+y:=by have h:=Rat.mkRat_add_mkRat x.num y.num x.den_nz y.den_nz;rw[WJ,WJ,Rat.mkRat_eq_div] at h;rw[h,<-Sa];rfl
def ZE(x y:Rat):(((x.num*y.num:Int)):Rat)/(((x.den:Int)*(y.den:Int):Int):Rat)=x*y:=by have h:=Rat.mkRat_mul_mkRat x.num y.num x.den y.den;rw[WJ,WJ,Rat.mkRat_eq_div] at h;rw[h,<-Sa];rfl
def yC(h:x.den=1):x=(x.num:Rat):=by have h1:=WJ x;rw[h] at h1;rw[<-Rat.mkRat_one,h1]
def LX(x:Rat):(x.den:Int)≠0:=by have:=x.den_pos;omega
def alS(x:Rat):mC x=some (-x):=by
 unfold mC;show bd (mkq (-x.num) x.den) _=_;have:=zU<| -x
 rw[Rat.neg_num,Rat.neg_den] at this;rw[this];rfl
def ai0(z:Int):nO z=some (z:Rat):=by unfold nO;show bd (mkq z 1) _=_;have:=zU (z:Rat);rw[UG,WM] at this;rw[show((1:Nat):Int)=1 from rfl] at this;rw[this];rfl
def alX(hx:FH x=true)(hy:FH y=true):mH x y=some (x+y):=by
 let⟨a1,a2⟩:=Tu hx;let⟨b1,b2⟩:=Tu hy;have aan:(bd (KI x.num (y.den:Int)) λBA=>bd (KI y.num (x.den:Int)) λBK=>bd (TK BA BK) λBk=>bd (KI (x.den:Int) (y.den:Int)) λBW=>bd (Ou Bk BW) λC4=>some C4)=some (x+y):=by rw[UZ a1 (Jd b2) A4 A4];show bd (KI y.num (x.den:Int)) _=_;rw[UZ b1 (Jd a2) A4 A4];show bd (TK _ _) _=_;rw[abE (Qw a1<|Jd b2) (Qw b1<|Jd a2) A4 A4];show bd (KI (x.den:Int) (y.den:Int)) _=_;rw[UZ (Jd a2) (Jd b2) A4 A4];show bd (Ou _ _) _=_;rw[pP (aoa (Qw a1<|Jd b2)<|Qw b1<|Jd a2) (Qw (Jd a2)<|Jd b2) A4 A4<|SZ (LX x)<|LX y,ZF];rfl
 unfold mH;by_cases h1:x.den=1
 .by_cases h2:y.den=1
  .have e1:Lm x=some true:=by unfold Lm;rw[B9 h1]
   have e2:Lm y=some true:=by unfold Lm;rw[B9 h2]
   rw[e1,e2];show bd (TK x.num y.num) _=_;rw[abE a1 b1 A4 A4];show some ((x.num+y.num:Int):Rat)=_;rw[Rat.intCast_add,<-yC h1,<-yC h2]
  .have e1:Lm x=some true:=by unfold Lm;rw[B9 h1]
   have e2:Lm y=some false:=by unfold Lm;rw[CB h2]
   rw[e1,e2];exact aan
 .have e1:Lm x=some false:=by unfold Lm;rw[CB h1]
  rw[e1];exact aan
def alT(hx:FH x=true)(hy:FH y=true):mD x y=some (x*y):=by let⟨a1,a2⟩:=Tu hx;let⟨b1,b2⟩:=Tu hy;unfold mD;rw[UZ a1 b1 A4 A4];show bd (KI (x.den:Int) (y.den:Int)) _=_;rw[UZ (Jd a2) (Jd b2) A4 A4];show bd (Ou _ _) _=_;rw[pP (Qw a1 b1) (Qw (Jd a2)<|Jd b2) A4 A4<|SZ (LX x)<|LX y,ZE];rfl
theorem amI(y:Rat):FH (-y)=FH y:=by simp_all [FH]
def alR(hx:FH x=true)(hy:FH y=true):mB x y=some (x-y):=by unfold mB;show bd (M8 x<| -y) _=_;unfold M8;rw[hx,amI,hy];show some (x+ -y)=_;rw[iU]
def alU(hx:FH x=true)(h0:x≠0):mE x=some x⁻¹ :=by let⟨a1,a2⟩:=Tu hx;unfold mE;rw[pP (Jd a2) a1 A4 A4 (by intro e;exact h0<|N8.1 e),Rat.inv_def,OY];rfl
theorem amJ(h:FH y=true)(h0:y≠0):FH y⁻¹ =true:=by(simp_all [FH]<;>grind)
def alV(hx:FH x=true)(hy:FH y=true)(h0:y≠0):mF x y=some (x/y):=by
 unfold mF;have e1:Us y=some y⁻¹ :=by unfold Us;rw[hy,CB h0];rfl
 have e2:GS x y⁻¹ =some (x*y⁻¹):=by unfold GS;rw[hx,amJ hy h0];rfl
 rw[e1];show bd (GS x y⁻¹) _=_;rw[e2,OT];rfl
def alW(hx:FH x=true)(hy:FH y=true):mG x y=some (bif decide (x<y) then -1 else bif decide (y<x) then 1 else 0):=by let⟨a1,a2⟩:=Tu hx;let⟨b1,b2⟩:=Tu hy;unfold mG;rw[UZ a1 (Jd b2) A4 A4];show bd (KI y.num (x.den:Int)) _=_;rw[UZ b1 (Jd a2) A4 A4];show bd (bL _ _) _=_;rw[aoP (Qw a1<|Jd b2) (Qw b1<|Jd a2) A4 A4];show some (V5 _ _)=_;unfold V5;have e1:decide (x.num*(y.den:Int)<y.num*(x.den:Int))=decide (x<y):=Gr.2 (Rat.lt_iff x y).symm;have e2:decide (y.num*(x.den:Int)<x.num*(y.den:Int))=decide (y<x):=Gr.2 (Rat.lt_iff y x).symm;rw[e1,e2]
theorem ajh(hx:FH x=true)(hy:FH y=true):lR x y=some (decide<|x=y):=by
 unfold lR;have e:O8 x y=some (bif decide (x<y) then -1 else bif decide (y<x) then 1 else 0):=by unfold O8;rw[hx,hy];rfl
 rw[e];show some (decide<|(bif decide (x<y) then(-1:Int) else bif decide (y<x) then 1 else 0)=0)=_
 congr 1
 by_cases h1:x<y
 .grind
 .grind
end
section
open Go.Shelf
variable[D:DR]{P:Program}{ρ:Ren}
def xj(cs:BG AV)(n:Nat):(Builtin.zeroCells cs n).size=n*cs.size:=by simp[Builtin.zeroCells]
def ajg(L:Lays8.n4 P ρ){α:Type}{f:α->Ty}{sz:Nat}{i0:TypeInfo}{z:AV}(hi0:P.info? (ρ.t 25)=some i0)(hz0:i0.zero=some z)(hs:i0.size=sz)(hs0:0<sz)(hz:z.cells.size=sz)(hb:i0.bytes<=1000)
  (hc:Gq P (ρ.f 4)=true){x r:A3 α}{n:Int}(hm:rL x n=some r):Eg P (ρ.f 4) [TN f x,TI .i64 n] (.fr (ρ.t 25) sz<|lT f r):=by
 obtain⟨hg,rfl⟩:=HK hm;rw[C9,C9] at hg;let⟨⟨h1,h2⟩,h3⟩:=hg;have h2:=As h2;have h3:=As h3;have hx:=WQ.1 h1;subst hx;refine⟨hc,λw H vs sub gl ha=>?_⟩;obtain⟨v,u,rfl,hv,hu⟩:=U8 ha;have hv:v= .slice none 0 0:=hv.2 rfl;have hu:u= .int .i64 n:=hu;subst hv hu;obtain⟨m,rfl⟩:∃m:Nat,n=(m:Int):=⟨n.toNat,A4⟩;show Calls P (ρ.f 4) #[.slice none 0 0,.int .i64 m] w _;rcases M1 m with h0|h0
 .subst h0;refine(Any8.slices_Grow_room L none 0 0 0 w (BQ _) A4 A4 A4).mono ?_;rintro e w' ⟨rfl,rfl⟩;exact⟨_,rfl,Fc.refl _ _,H,λ_ _=>rfl,sub,[],World.ownsRow_nil w' _ _ _,rfl,λb h=>by simp[Value.ownBlock] at h⟩
 .refine(Any8.slices_Grow_grow L i0 z hi0 hz0 A4 none 0 0 m [] w (BQ _) A4 (Ch (GL (show 0+m<=100000000 by omega) hb) A4) A4 AT (λ_=>rfl) (λa h=>by cases h)).mono ?_;rintro e w' ⟨rfl,rfl⟩;have hG:=grownCap_ge w (0+m) 0<|ρ.t 25
  have hM:=grownCap_le_maxLen w (0+m) 0 (ρ.t 25) (by unfold maxLen;omega)
  generalize grownCap w (0+m) 0 (ρ.t 25)=G at*
  generalize ho:Obj.cells (([]:A3 AV).toArray++Builtin.zeroCells z.cells (0+m-0)++Builtin.zeroCells z.cells (G-(0+m))) (ρ.t 25)=o
  have acT:∀k,k<w.heap.size->(w.drew.alloc o).heap[k]? =w.heap[k]? :=λk hk=>Below.heap_alloc w.drew o k hk
  refine⟨_,rfl,⟨⟨rfl,rfl,rfl,(Fc.alloc (w:=w.drew) o).size,acT⟩,?_⟩,H,λ_ _=>rfl,λr o hr=>?_,[],⟨AT,.inr ⟨w.heap.size,G,_,rfl,FV _,(Lx w.drew o).trans<|congrArg some ho.symm,FV _,hM,?_,by simp[lT]⟩⟩,rfl,λb hb=>?_⟩
  .exact H9.of<|Qj _
  .have:=sub r o hr;rw[acT r (by
    rcases Hl r w.heap.size with h|h
    .exact h
    .rw[im h] at this;cases this)]
   exact this
  .rw[Array.size_append,Array.size_append,xj,xj,hz];simp only[iS,UH,Pd,Nat.sub_zero];rw[<-Ke]
   congr 1;omega
  .have e:b=w.heap.size:=by simp[Value.ownBlock] at hb;exact hb.symm
   subst e;refine⟨BQ _,?_⟩;cases hH:H w.heap.size with
   |none=>rfl
   |some o=>have:=sub _ o hH;rw[im<|BQ _] at this;cases this
end
end Trn
namespace P4
section
open Go.Shelf Go.Sort Go.Lib
def ahI(w:World)(T:TypeId)(nd:Nat)(hs:nd<=24):Holds (λ(b:UInt8)=>Value.int .u8 (b.toNat:Int)) (w.alloc<| .cells zeros24 T) w.heap.size 0 (Array.replicate nd (0:UInt8)):=λj hj=>by
 have hj':j<nd:=by simpa using hj
 refine⟨?_,World.frozen?_alloc_new _ _ _ _⟩;rw[World.cell?_alloc_new,Nat.zero_add,zeros24_at _ Trn.A4,getElem!_pos _ j hj];simp
def ale(w:World)(o:Obj)(dk:Array UInt8)(k:Nat):∃os,(putRow (λ(b:UInt8)=>Value.int .u8 (b.toNat:Int)) (w.alloc o) w.heap.size 0 dk).drewN k=Go.Sort.grow (w.drewN k) os:=by rw[alloc_eq_grow];let⟨os',_,e⟩:=putRow_grow_new (λ(b:UInt8)=>Value.int .u8 (b.toNat:Int)) w #[o] w.heap.size 0 dk (Nat.le_refl _);exact⟨os',by rw[e];rfl⟩
set_option maxHeartbeats 6400000 in
set_option maxRecDepth 100000 in
def ai1(u:Nat)(hu64:u<18446744073709551616)(w:World)
  (htab:Lib.TabIs prog w "internal/strconv.uint64pow10" .u64 Lib.pow10Tab):Calls prog 304 #[.int .u64 u,.int .i64 10] w λe w'=>e= .returned (.string ⟨(Lib.decDigits u).toArray⟩)/\∃k os,w'=Go.Sort.grow (w.drewN k) os:=by
 have L:=zZ;have mixed:=L.mixed;have t2:prog.underlying 3=some (.int .i64):=L.t3;have t446:prog.underlying 376=some (.array 24 5):=L.t171;have a446:∀w:World,(isAgg 376).run prog w= .ok true w:=L.a171;have z446:∀w:World,(Go.sizeOf 376).run prog w= .ok 24 w:=L.z171;have v446:=L.v171;have v446:∀w:World,(zeroValue 376).run prog w= .ok (.agg #[.int .u8 0,.int .u8 0,.int .u8 0,.int .u8 0,.int .u8 0,.int .u8 0,.int .u8 0,.int .u8 0,.int .u8 0,.int .u8 0,.int .u8 0,.int .u8 0,.int .u8 0,.int .u8 0,.int .u8 0,.int .u8 0,.int .u8 0,.int .u8 0,.int .u8 0,.int .u8 0,.int .u8 0,.int .u8 0,.int .u8 0,.int .u8 0]) w:=v446;have t9:=L.t9;have t154:prog.underlying 318=some (.slice 5):=L.t37;have e283:∀args w,(callFunc 337 args).run prog w= .ok (.enter 337 args) w:=enters_of L.f283 Trn.A6 rfl;have e284:∀args w,(callFunc 338 args).run prog w= .ok (.enter 338 args) w:=enters_of L.f284 Trn.A6 rfl;have e285:∀args w,(callFunc 339 args).run prog w= .ok (.enter 339 args) w:=enters_of L.f285 Trn.A6 rfl;by_cases hs:u<100
 .go_enter func304,ntmps304
  go_wp2_with (go_at_fn (337);refine(internal_strconv_small u hs _).mono ?_;rintro e w' ⟨rfl,rfl⟩)
  go_ret
  exact⟨rfl,0,#[],by simp[World.drewN_zero]⟩
 .have hu1:1<=u:=Trn.A4;have hnd20:Lib.nDigits u<=20:=by have:=Lib.numDigits_eq u hu1 hu64;split at this<;>omega
  have hb3:Lib.nDigits u<=23:=Trn.A4;have hal:prog.arrayLen 376=24:=by simp[Program.arrayLen,t446]
  have hsl:∀W,(Instr.sliceAt 376 (.pointer<|some ⟨w.heap.size,0,none⟩) none (some<| .int .i64 (Lib.nDigits u:Int)) none).run prog W= .ok (.slice (some ⟨w.heap.size,0,none⟩) (Lib.nDigits u) 24) W:=λW=>by
   rw[run_sliceAt_array_h W 376 ⟨w.heap.size,0,none⟩ (by simp[Program.arrayLen,Program.elem,t446]) .i64 (Lib.nDigits u:Int) Trn.A4 (by rw[hal];omega)]
   go_simp
  have hH0:=ahI w 376 (Lib.nDigits u) Trn.A4;have hfmt:=internal_strconv_formatBase10 w.heap.size 0 24 u (Array.replicate (Lib.nDigits u) 0) (w.alloc<| .cells Lib.zeros24 376) hH0 (by rw[Array.size_replicate];exact Lib.lt_pow_nDigits u) hu64 (by rw[Array.size_replicate];omega);rw[Array.size_replicate] at hfmt;have HH0:=Lib.hid hH0;clear hH0 hal
  go_enter func304,ntmps304
  go_wp2_with (first
   |(go_at_fn (338);refine(Any.internal_strconv_numDigits {L with} u hu1 hu64 _<|Lib.tabIs_alloc htab _).mono ?_;rintro e w' ⟨rfl,rfl⟩))
  go_at_fn (339)
  refine hfmt.mono ?_;rintro e w' ⟨rfl,k,v',dk,rfl,hF⟩;have hcv:(convert 318 9<| .slice (some ⟨w.heap.size,0,none⟩) (Lib.nDigits u) 24).run prog ((putRow (λ(b:UInt8)=>Value.int .u8 (b.toNat:Int)) (w.alloc<| .cells Lib.zeros24 376) w.heap.size 0 dk).drewN k)= .ok (.string ⟨(Lib.decDigits u).toArray⟩) ((putRow (λ(b:UInt8)=>Value.int .u8 (b.toNat:Int)) (w.alloc<| .cells Lib.zeros24 376) w.heap.size 0 dk).drewN k):=by
   have h:=run_convert_bytes_back (P:=prog) ((putRow (λ(b:UInt8)=>Value.int .u8 (b.toNat:Int)) (w.alloc<| .cells Lib.zeros24 376) w.heap.size 0 dk).drewN k) 318 9 5 ⟨w.heap.size,0,none⟩ 24 (Lib.decDigits u) L.t37 L.t5 L.t9 (λj hj=>by rw[Lib.row_is_numeral hF j hj,Lib.add_plain,World.cell?_drewN];exact cell?_putRow (λ(b:UInt8)=>Value.int .u8 (b.toNat:Int)) _ w.heap.size 0 _ dk HH0.out (by rw[hF.size,Array.size_replicate]) j (by rw[hF.size];rw[Lib.decDigits_length] at hj;exact hj))
   rw[Lib.decDigits_length] at h;exact h
  go_wp2
  go_ret
  let⟨os,eo⟩:=ale w (.cells Lib.zeros24 376) dk k;exact⟨rfl,k,os,eo⟩
set_option maxHeartbeats 6400000 in
set_option maxRecDepth 100000 in
def ag7(u:Nat)(hu64:u<18446744073709551616)(w:World)
  (htab:Lib.TabIs prog w "internal/strconv.uint64pow10" .u64 Lib.pow10Tab):Calls prog 264 #[.int .u64 u,.int .i64 10] w λe w'=>e= .returned (.string ⟨(Lib.decDigits u).toArray⟩)/\∃k os,w'=Go.Sort.grow (w.drewN k) os:=by
 have L:=zZ;have mixed:=L.mixed;have e316:∀args w,(callFunc 304 args).run prog w= .ok (.enter 304 args) w:=enters_of func304 Trn.A6 rfl;have h:=ai1 u hu64 w htab
 go_enter func264,ntmps264
 go_wp2_with (go_at_fn (304);refine h.mono ?_;rintro e w' ⟨rfl,k,os,rfl⟩)
 go_ret
 exact⟨rfl,k,os,rfl⟩
def xY(w:World):∀k,(w.drewN k).os=w.os/\(w.drewN k).tape=w.tape/\(w.drewN k).output=w.output/\(w.drewN k).heap=w.heap
 |0=>⟨rfl,rfl,rfl,rfl⟩|k+1=>xY w.drew k
def xi{w:World}{k:Nat}{os:Array Obj}:Below w.heap.size w (Go.Sort.grow (w.drewN k) os):=by
 let⟨h1,h2,h3,h4⟩:=xY w k;refine⟨h1,h2,h3,?_,λi hi=>?_⟩
 .show w.heap.size<=((w.drewN k).heap++os).size;rw[h4,Array.size_append];omega
 .show((w.drewN k).heap++os)[i]? =_;rw[h4,Array.getElem?_append_left hi]
end
end P4
namespace Trn
section
variable{α ρ σ:Type}{r:ρ}
def Up(x:α)(K:α->A9 ρ):bd (some x) K=K x:=rfl
def adB{n:Nat}(h:n<=9223372036854775807):AG (n:Int)=some (n:Int):=by unfold AG IL;rw[B9 (show(-9223372036854775808:Int)<=(n:Int) by omega),B9 (show(n:Int)<=9223372036854775807 by omega)];rfl
def abe{σ ρ α:Type}(L:A3 α)(Bd:(σ->A9 ρ)->α->σ->A9 ρ)(K:σ->A9 ρ)(B:((σ×Int)->A9 ρ)->σ×Int->A9 ρ)(o:Nat)
  (jm:∀k u (i:Nat) x,L[i]? =some x->B k (u,((i+o:Nat):Int))=Bd (λu'=>k (u',((i+1+o:Nat):Int))) x u)
  (hend:∀k u,B k (u,((L.length+o:Nat):Int))=K u):∀(F i:Nat) (u:σ),i<=L.length->L.length-i<F->lp F B (u,((i+o:Nat):Int))=JS (L.drop i) Bd u K
 |0,i,u,_,h=>by omega
 |F+1,i,u,hi,hF=>by
  show B (lp F B) (u,_)=_;rcases Hl i L.length with h|h
  .rw[US h];show _=Bd (λs=>JS (L.drop<|i+1) Bd s K) L[i] u;rw[jm _ _ i L[i]<|Gs h]
   congr 1
   funext u'
   exact abe L Bd K B o jm hend F (i+1) u' A4 A4
  .have:i=L.length:=A4;subst this;rw[hend,Sc];rfl
def aaW(L:A3 α)(Bd:(σ->A9 ρ)->α->σ->A9 ρ)(K:σ->A9 ρ)(o:Nat){B:((σ×Int)->A9 ρ)->σ×Int->A9 ρ}{z:Int}{F:Nat}{u:σ}(hz:z=(o:Int))(hF:L.length<F)(hm:JS L Bd u K=some r)
 (jm:∀k u (i:Nat) x,L[i]? =some x->B k (u,((i+o:Nat):Int))=Bd (λu'=>k (u',((i+1+o:Nat):Int))) x u)
 (hend:∀k u,B k (u,((L.length+o:Nat):Int))=K u):lp F B (u,z)=some r:=by
 have h:=abe L Bd K B o jm hend F 0 u (FV _) hF;rw[Pd] at h;rw[hz,h];exact hm
theorem zg{b:Bool}{x r:α}(h:ES b x=some r):b=true/\x=r:=by grind [ES]
def Jj(l:A3 α)(i:Nat):AB l (i:Int)=l[i]? :=rfl
theorem af0{c0:A3 V3}{L:A3 (V3)}(ho:Vo c0=some L)(Bd:(σ->A9 ρ)->V3->σ->A9 ρ)(K:σ->A9 ρ)(u:σ)(hm:JS L Bd u K=some r):kY c0 Bd K u=some r:=by
 obtain⟨hb,rfl⟩:=zg ho;have hb:c0.length<4000000000:=Dx hb;unfold kY;refine aaW c0 Bd K 0 rfl A4 hm ?_ ?_
 .intro k u i x hx;have hi:i<c0.length:=(FX.1 hx).1;dsimp only;rw[B9 (show((i+0:Nat):Int)<(c0.length:Int) by omega)];rw[BX,Jj,UF,hx,Up];refine congrArg (λf=>Bd f x u)<|funext λu'=>?_
  rw[show(((i:Nat):Int)+1)=((i+1+0:Nat):Int) from by omega,adB A4,Up]
 .grind
def zD{l:A3 α}{i:Nat}{x:α×α}(h:(SN l)[i]? =some x):l[i]? =some x.1/\l[(i+1)%l.length]? =some x.2/\i<l.length:=by
 cases l with
 |nil=>simp[SN] at h
 |cons a l=>
  unfold SN at h;rw[qd] at h;let⟨h1,h2⟩:=h;have hi:i<(a::l).length:=(FX.1 h1).1;refine⟨h1,?_,hi⟩;simp only[E2] at hi⊢;rcases Hl i l.length with h3|h3
  .rw[Sd A4,List.getElem?_cons_succ];rw[Mh h3] at h2;exact h2
  .have:i=l.length:=A4;subst this;rw[Nat.mod_self];rw[Mi<|BQ _,qV] at h2;exact h2
theorem fM(l:A3 α):(SN l).length=l.length:=by(simp_all [SN]<;>grind)
def afU{c0:A3 V3}{L:A3 ((V3×V3))}(ho:Vv c0=some L)(Bd:(σ->A9 ρ)->(V3×V3)->σ->A9 ρ)(K:σ->A9 ρ)(u:σ)(hm:JS L Bd u K=some r):lP c0 Bd K u=some r:=by
 obtain⟨hb,rfl⟩:=zg ho;have hb:c0.length<1000000000:=Dx hb;unfold lP;refine aaW (SN c0) Bd K 0 rfl (by rw[fM];omega) hm ?_ ?_
 .intro k u i x hx;let⟨h1,h2,hi⟩:=zD hx;dsimp only;rw[B9 (show((i+0:Nat):Int)<(c0.length:Int) by omega)];have ef:AG (((i:Nat):Int)+1)=some ((i+1+0:Nat):Int):=by rw[show(((i:Nat):Int)+1)=((i+1+0:Nat):Int) from by omega,adB A4]
  have er:G9 ((i+1+0:Nat):Int) (c0.length:Int)=some (((i+1)%c0.length:Nat):Int):=by unfold G9;rw[CB A4,B8,Int.tmod_eq_emod_of_nonneg A4];rfl
  rw[BX,Jj,UF,h1,Up,ef,Up,er,Up,Jj,h2,Up];refine congrArg (λf=>Bd f (x.1,x.2) u)<|funext λu'=>?_
  rw[Up]
 .intro k u;dsimp only;rw[CB (by rw[fM];omega)];rfl
end
section
variable{P:Program}
variable{α:Type}{dep:Nat}{T:Ap}{n:Nat}{fs:A3 (Ap×Nat)}{IQ:α->A3 Ty}{eb:α->α->Bool}{f:α->Ty}{off:Nat}
structure JJ(P:CP)(T:Ap){α:Type}[DecidableEq α](f:α->Ty)(n:Nat)(agg:Bool)(dep:Nat):Prop where
 lay:Bv P T n agg=true
 sz:∀x,(f x).n=n
 ag:∀x,(f x).agg=agg
 eq:∀(d:Nat) (H:HV) (u v:AV) (x y:α),(f x).ok H u->(f y).ok H v->∀w:AR,(Op.equalIn (d+dep) T u v).run P w= .ok (decide<|x=y) w
 chk:∀(d:Nat) (e:Bool) (H:HV) (u:AV) (x:α),(f x).ok H u->∀w:AR,(Instr.checkKey e (d+dep) T u).run P w= .ok () w
 uniq:∀(H:HV) (u v:AV) (x:α),(f x).ok H u->(f x).ok H v->u=v
 leaf:∀(H:HV) (u:AV) (x:α),(f x).ok H u->∀c∈u.cells.toList,∀m,Instr.sameBits m c c=true
theorem toList_inj{a b:AA}:((⟨a.toArray⟩:ByteArray).toList==(⟨b.toArray⟩:ByteArray).toList)=decide (a=b):=by
 rw[ByteArray.toList_eq,ByteArray.toList_eq];show(a.toArray.toList==b.toArray.toList)=_;simp[List.toList_toArray];by_cases h:a=b
 .subst h;simp
 .grind
def ajW(hl:Bv P T 1 false=true)(hu:P.underlying T=some .string):JJ P T TS 1 false 1 where
 lay:=hl
 sz _:=rfl
 ag _:=rfl
 eq d H u v x y Jr JT w:=by have Jr:u= .string ⟨x.toArray⟩:=Jr;have JT:v= .string ⟨y.toArray⟩:=JT;subst Jr;subst JT;rw[run_equalIn_string w d T _ _ hu,toList_inj]
 chk d e H u x Jr w:=by have Jr:u= .string ⟨x.toArray⟩:=Jr;subst Jr;simp[Instr.checkKey,Ey hu]
 uniq H u v x h1 h2:=Eq.trans h1<|Eq.symm h2
 leaf H u x h c hc m:=by
  have h:u= .string ⟨x.toArray⟩:=h;subst h;have hc:c= .string ⟨x.toArray⟩:=by simpa[Value.cells] using hc
  subst hc;simp[Instr.sameBits];rw[beq_toListBytes];simp
def apG{k:IntKind}(hl:Bv P T 1 false=true)(hu:P.underlying T=some (.int k)):JJ P T (TI k) 1 false 1 where
 lay:=hl
 sz _:=rfl
 ag _:=rfl
 eq d H u v x y Jr JT w:=by
  have Jr:u= .int k x:=Jr;have JT:v= .int k y:=JT;subst Jr;subst JT;rw[run_equalIn_int w d T k k _ _ hu]
  rfl
 chk d e H u x Jr w:=by have Jr:u= .int k x:=Jr;subst Jr;simp[Instr.checkKey,Ey hu]
 uniq H u v x h1 h2:=Eq.trans h1<|Eq.symm h2
 leaf H u x h c hc m:=by
  have h:u= .int k x:=h;subst h;have hc:c= .int k x:=by simpa[Value.cells] using hc
  subst hc;simp[Instr.sameBits]
def JJ.rY[DecidableEq α]{agg:Bool}{XK:Nat}(h:JJ P T f n agg dep)(hd:dep<=XK):JJ P T f n agg XK where
 lay:=h.lay
 sz:=h.sz
 ag:=h.ag
 eq d H u v x y h1 h2 w:=by rw[show d+XK=(d+(XK-dep))+dep from by omega];exact h.eq _ H u v x y h1 h2 w
 chk d e H u x h1 w:=by rw[show d+XK=(d+(XK-dep))+dep from by omega];exact h.chk _ e H u x h1 w
 uniq:=h.uniq
 leaf:=h.leaf
inductive Rows(P:CP){α:Type}(dep:Nat):A3 (Ap×Nat)->Nat->(α->A3 Ty)->(α->α->Bool)->Prop where
 |nil {off:Nat}:Rows P dep [] off (λ_=>[]) (λ_ _=>true)
 |cons {T:Ap} {off n:Nat} {agg:Bool} {β:Type} [DecidableEq β] {g:β->Ty} {acc:α->β} {fs:A3 (Ap×Nat)} {IQ:α->A3 Ty} {eb:α->α->Bool}:
   JJ P T g n agg dep->Rows P dep fs (off+n) IQ eb->Rows P dep ((T,off)::fs) off (λx=>g (acc x)::IQ x) (λx y=>decide (acc x=acc y)&&eb x y)
def eqL(d:Nat)(xs ys:BG AV):A3 (Ap×Nat)->Sem Bool
 |[]=>pure true
 |(T,o)::fs=>do
  let a<-part T xs o
  let b<-part T ys o
  let r<-Op.equalIn d T a b
  if(!r)=true then pure false else eqL d xs ys fs
def Q6(e:Bool)(d:Nat)(xs:BG AV):A3 (Ap×Nat)->Sem Unit
 |[]=>pure ()
 |(T,o)::fs=>do
  let a<-part T xs o
  Instr.checkKey e d T a
  Q6 e d xs fs
def oR{agg:Bool}{τ:Ty}{l:A3 Ty}{H:HV}{cs:BG AV}(hl:Bv P T n agg=true)(hn:τ.n=n)(ha:τ.agg=agg)(h:Db H (τ::l) (cs.toList.drop off))(ho:off<=cs.size):∃v,(∀w,(part T cs off).run P w= .ok v w)/\τ.ok H v/\Db H l (cs.toList.drop<|off+n)/\off+n<=cs.size:=by
 have hlen:=N6 h;rw[Ja,Fv] at hlen;have hc:CS (τ::l)=τ.n+CS l:=rfl;rw[hc,hn] at hlen;have hle:off+n<=cs.size:=A4;let⟨v,rest,e,hv,hr⟩:=h;have hs:=τ.shape hv;have e1:(cs.toList.drop off).take n=v.cells.toList:=by rw[e,<-hn,<-hs.size,<-Fv,iJ]
 refine⟨v,λw=>?_,hv,?_,hle⟩
 .rw[pA hl hle,e1];have:=hs.eq;rw[ha] at this;rw[Array.toArray_toList];exact congrArg (λz=>Result.ok z w) this.symm
 .rw[<-Fe,e,<-hn,<-hs.size,<-Fv,WK];exact hr
theorem ama(h:Rows P dep fs off IQ eb):∀(d:Nat) (H:HV) (cs ds:BG AV) (x y:α),Db H (IQ x) (cs.toList.drop off)->Db H (IQ y) (ds.toList.drop off)->off<=cs.size->off<=ds.size->∀w:AR,(eqL (d+dep) cs ds fs).run P w= .ok (eb x y) w:=by
 induction h with
 |nil=>intro d H cs ds x y _ _ _ _ w;rfl
 |cons hk hr ih=>
  intro d H cs ds x y h1 h2 o1 o2 w;let⟨u,p1,k1,r1,s1⟩:=oR hk.lay (hk.sz _) (hk.ag _) h1 o1;let⟨v,p2,k2,r2,s2⟩:=oR hk.lay (hk.sz _) (hk.ag _) h2 o2;unfold eqL;simp only[E6,p1,p2,hk.eq d H u v _ _ k1 k2,Dt];split
  .rename_i hb;rw[GM] at hb;rw[hb];rfl
  .grind
def akL(h:Rows P dep fs off IQ eb):∀(d:Nat) (e:Bool) (H:HV) (cs:BG AV) (x:α),Db H (IQ x) (cs.toList.drop off)->off<=cs.size->∀w:AR,(Q6 e (d+dep) cs fs).run P w= .ok () w:=by
 induction h with
 |nil=>intro d e H cs x _ _ w;rfl
 |cons hk hr ih=>intro d e H cs x h1 o1 w;let⟨u,p1,k1,r1,s1⟩:=oR hk.lay (hk.sz _) (hk.ag _) h1 o1;unfold Q6;simp[E6,p1,hk.chk d e H u _ k1,Dt];exact ih d e H cs x r1 s1 w
def aj8(h:Rows P dep fs off IQ eb):∀(H:HV) (cs ds:A3 AV) (x:α),Db H (IQ x) cs->Db H (IQ x) ds->cs=ds:=by
 induction h with
 |nil=>intro H cs ds x h1 h2;exact Eq.trans h1<|Eq.symm h2
 |cons hk hr ih=>rintro H cs ds x ⟨u,r1,e1,k1,o1⟩ ⟨v,r2,e2,k2,o2⟩;rw[e1,e2,hk.uniq H u v _ k1 k2,ih H r1 r2 x o1 o2]
theorem aj9(h:Rows P dep fs off IQ eb):∀(H:HV) (cs:A3 AV) (x:α),Db H (IQ x) cs->∀c∈cs,∀m,Instr.sameBits m c c=true:=by
 induction h with
 |nil=>intro H cs x h1 c hc;rw[show cs=[] from h1] at hc;cases hc
 |cons hk hr ih=>
  rintro H cs x ⟨u,r1,e1,k1,o1⟩ c hc m;rw[e1] at hc;rcases CJ.1 hc with hc|hc
  .exact hk.leaf H u _ k1 c hc m
  .grind
def yP(d:Nat)(e:Ap)(c:Nat)(xs ys:BG AV):∀is:A3 Nat,Op.eqItems d e c xs ys is=eqL d xs ys (is.map λi=>(e,i*c))
 |[]=>rfl
 |i::is=>by unfold Op.eqItems;rw[MW];unfold eqL;simp[yP d e c xs ys is]
def aN(fs:A3 Field):Bool:=fs.all λf=>decide<|f.name≠ "_"
def xU(d:Nat)(xs ys:BG AV):∀fs:A3 Field,aN fs=true->Op.eqFields d xs ys fs=eqL d xs ys (fs.map λf=>(f.type,f.offset))
 |[],_=>rfl
 |f::fs,h=>by unfold aN at h;rw[OU,C9,Hm] at h;unfold Op.eqFields;rw[if_pos h.1,MW];unfold eqL;simp[xU d xs ys fs h.2]
def aiE(e:Bool)(d:Nat)(t:Ap)(xs:BG AV){w:AR}(ht:P.underlying t=some (.struct<|P.fieldsOf t))(hn:aN (P.fieldsOf t).toList=true):(Instr.checkKey e (d+1) t<| .agg xs).run P w=(Q6 e d xs<|(P.fieldsOf t).toList.map λf=>(f.type,f.offset)).run P w:=by
 simp only[Instr.checkKey,E6,Kh ht,Dt];rw[<-Array.forIn_toList]
 generalize (P.fieldsOf t).toList=fs at hn
 clear ht
 induction fs generalizing w with
 |nil=>simp[Q6]
 |cons f fs ih=>
  unfold aN at hn;rw[OU,C9,Hm] at hn;simp only[List.forIn_cons,MW,Q6,E6,Sem.run_ite,if_pos hn.1]
  generalize (part f.type xs f.offset).run P w=r1
  cases r1 with
  |ok a w1=>
   simp only[Dt]
   generalize (Instr.checkKey e d f.type a).run P w1=r2
   cases r2 with
   |ok b w2=>simp only[Dt,K7];exact ih hn.2
   |halt x w2=>simp[Result.andThen]
  |halt x w1=>simp[Result.andThen]
def ajr(em:Bool)(d:Nat){t e:Ap}{c:Nat}(xs:BG AV){w:AR}(hu:P.underlying t=some (.array n e))(hi:∀w,(Go.sizeOf e).run P w= .ok c w):(Instr.checkKey em (d+1) t<| .agg xs).run P w=(Q6 em d xs<|(List.range n).map λi=>(e,i*c)).run P w:=by
 simp only[Instr.checkKey,E6,Kh hu,Dt];simp only[Std.Legacy.Range.forIn_eq_forIn_range',Std.Legacy.Range.size,Nat.sub_zero,Nat.add_one_sub_one,Nat.div_one,List.range_eq_range']
 generalize List.range' 0 n=is
 induction is generalizing w with
 |nil=>simp[Q6]
 |cons j is ih=>
  simp[List.forIn_cons,MW,Q6,E6,hi,Dt]
  generalize (part e xs<|j*c).run P w=r1
  cases r1 with
  |ok a w1=>
   simp[Dt]
   generalize (Instr.checkKey em d e a).run P w1=r2
   cases r2 with
   |ok b w2=>simp[Dt,K7];exact ih
   |halt x w2=>simp[Result.andThen]
  |halt x w1=>simp[Result.andThen]
def abj[DecidableEq α](hl:Bv P T n true=true)(hf:∀x,f x=DH (IQ x))(hn:∀x,CS (IQ x)=n)
 (hr:Rows P dep fs 0 IQ eb)(he:∀x y,eb x y=decide (x=y))
 (h1:∀(d:Nat) (xs ys:BG AV) (w:AR),(Op.equalIn (d+1) T (.agg xs)<| .agg ys).run P w=(eqL d xs ys fs).run P w)
 (h2:∀(e:Bool) (d:Nat) (xs:BG AV) (w:AR),(Instr.checkKey e (d+1) T<| .agg xs).run P w=(Q6 e d xs fs).run P w):JJ P T f n true (dep+1) where
 lay:=hl
 sz x:=by rw[hf];exact hn x
 ag x:=by rw[hf];rfl
 eq d H u v x y hu hv w:=by rw[hf] at hu hv;obtain⟨cs,rfl,k1⟩:=hu;obtain⟨ds,rfl,k2⟩:=hv;rw[<-LM,h1,ama hr d H cs ds x y k1 k2 (FV _)<|FV _,he]
 chk d e H u x hu w:=by rw[hf] at hu;obtain⟨cs,rfl,k1⟩:=hu;rw[<-LM,h2,akL hr d e H cs x k1<|FV _]
 uniq H u v x hu hv:=by
  rw[hf] at hu hv;obtain⟨cs,rfl,k1⟩:=hu;obtain⟨ds,rfl,k2⟩:=hv
  congr 1
  exact Array.ext'<|aj8 hr H _ _ x k1 k2
 leaf H u x hu c hc m:=by rw[hf] at hu;obtain⟨cs,rfl,k1⟩:=hu;exact aj9 hr H _ x k1 c hc m
def oZ[DecidableEq α](hl:Bv P T n true=true)(hf:∀x,f x=DH (IQ x))(hn:∀x,CS (IQ x)=n)
 (hr:Rows P dep fs 0 IQ eb)(he:∀x y,eb x y=decide (x=y))
 (ht:P.underlying T=some (.struct<|P.fieldsOf T))(hs:P.stoodInHeld T=false)(hnm:aN (P.fieldsOf T).toList=true)(L2:(P.fieldsOf T).toList.map (λf=>(f.type,f.offset))=fs):JJ P T f n true (dep+1):=abj hl hf hn hr he (λd xs ys w=>by rw[run_equalIn_struct w d T xs ys ht hs,xU d xs ys _ hnm,L2]) (λe d xs w=>by rw[aiE e d T xs ht hnm,L2])
def zd{E:Ap}{k c:Nat}{i:TypeInfo}[DecidableEq α](hl:Bv P T n true=true)(hf:∀x,f x=DH (IQ x))(hn:∀x,CS (IQ x)=n)
 (hr:Rows P dep fs 0 IQ eb)(he:∀x y,eb x y=decide (x=y))
 (ht:P.underlying T=some (.array k E))(hi:P.info? E=some i)(hc:P.cellsOf E=c)(L2:(List.range k).map (λi=>(E,i*c))=fs):JJ P T f n true (dep+1):=abj hl hf hn hr he (λd xs ys w=>by rw[run_equalIn_array w d xs ys ht hi,yP,hc,L2]) (λe d xs w=>by rw[ajr e d xs ht (c:=c) (λw=>by rw[run_sizeOf w hi,<-hc]),L2])
def JJ.key[DecidableEq α](h:JJ P T f n true dep)(hd:dep<=10000)(hk:∃ud,P.underlying T=some ud/\∀u v,Instr.sameNow ud u v=none):Sj P T f where
 eq H u v x y h1 h2 w:=by have:=h.eq (10000-dep) H u v x y h1 h2 w;rw[show 10000-dep+dep=10000 from by omega] at this;exact this
 check H u x h1 e w:=by have:=h.chk (10000-dep) e H u x h1 w;rw[show 10000-dep+dep=10000 from by omega] at this;exact this
 kind:=hk
 bits H u v x h1 h2:=by
  have:=h.uniq H u v x h1 h2;subst this;have hs:=(f x).shape h1;have ha:=hs.eq;rw[h.ag] at ha;have hl:=h.leaf H u x h1;rw[ha] at hl⊢;show Instr.sameBits (9999+1) (.agg u.cells) (.agg u.cells)=true;simp only[Instr.sameBits,beq_self_eq_true,Kg];rw[Dr];intro p hp;have:p.1=p.2/\p.1∈u.cells.toList:=by let⟨i,hi⟩:=WY.1 hp;rw[qd] at hi;let⟨h5,h6⟩:=hi;rw[h5] at h6;exact⟨Ez h6,KC h5⟩
  let⟨e1,e2⟩:=this;rw[<-e1];exact hl p.1 e2 _
def JJ.eqs[DecidableEq α](h:JJ P T f n true dep)(hd:dep<=10000)(hg:P.eqGuardType P.depth T=false):Ui P T f where
 run H u v x y h1 h2 w:=by have:=h.eq (10000-dep) H u v x y h1 h2 w;rw[show 10000-dep+dep=10000 from by omega] at this;exact this
 guard H u v x y h1 h2 o p q w:=by have a1:=((f x).shape h1).eq;have a2:=((f y).shape h2).eq;rw[h.ag] at a1 a2;rw[a1,a2];exact run_eqGuard_agg w o T p q _ _ hg
 agg:=h.ag
end
def az:JJ prog 26 TS 1 false 1:=ajW A6 A6
def kt3:JJ prog 3 (TI .i64) 1 false 1:=apG A6 A6
def sy:JJ prog 40 Mc 3 true 2:=
 zd (k:=3) (E:=3) (c:=1) (fs:=[(3,0),(3,1),(3,2)]) A6 (λ_=>rfl) (λ_=>rfl)
  (Rows.cons (acc:=λx:Int×Int×Int=>x.1) kt3<|Rows.cons (acc:=λx:Int×Int×Int=>x.2.1) kt3<|Rows.cons (acc:=λx:Int×Int×Int=>x.2.2) kt3 Rows.nil)
  (λx y=>by let⟨a,b,c⟩:=x;let⟨a',b',c'⟩:=y;simp[Qo,ZY]) A6 (i:=(prog.info? 3).get A6) A6 A6 rfl
def arC:JJ prog 165 NZ 4 true 3:=
 oZ (fs:=[(40,0),(26,3)]) A6 (λ_=>rfl) (λ_=>rfl)
  (Rows.cons (acc:=λx:(Int×Int×Int)×AA=>x.1) sy<|Rows.cons (acc:=λx:(Int×Int×Int)×AA=>x.2) (az.rY A4) Rows.nil)
  (λx y=>by let⟨a,b⟩:=x;let⟨a',b'⟩:=y;simp[Qo,ZY]) A6 A6 A6 A6
def acu:JJ prog 31 Bf 3 true 2:=
 zd (k:=3) (E:=26) (c:=1) (fs:=[(26,0),(26,1),(26,2)]) A6 (λ_=>rfl) (λ_=>rfl)
  (Rows.cons (acc:=λx:AA×AA×AA=>x.1) az<|Rows.cons (acc:=λx:AA×AA×AA=>x.2.1) az<|Rows.cons (acc:=λx:AA×AA×AA=>x.2.2) az Rows.nil)
  (λx y=>by let⟨a,b,c⟩:=x;let⟨a',b',c'⟩:=y;simp[Qo,ZY]) A6 (i:=(prog.info? 26).get A6) A6 A6 rfl
def acs:JJ prog 42 Ar 4 true 3:=
 oZ (fs:=[(40,0),(26,3)]) A6 (λ_=>rfl) (λ_=>rfl)
  (Rows.cons (acc:=λx:(Int×Int×Int)×AA=>x.1) sy<|Rows.cons (acc:=λx:(Int×Int×Int)×AA=>x.2) (az.rY A4) Rows.nil)
  (λx y=>by let⟨a,b⟩:=x;let⟨a',b'⟩:=y;simp[Qo,ZY]) A6 A6 A6 A6
def asf:JJ prog 76 LB 7 true 4:=
 oZ (fs:=[(42,0),(31,4)]) A6 (λ_=>rfl) (λ_=>rfl)
  (Rows.cons (acc:=λx:HfZ×Bj=>x.1) acs<|Rows.cons (acc:=λx:HfZ×Bj=>x.2) (acu.rY A4) Rows.nil)
  (λx y=>by let⟨a,b⟩:=x;let⟨a',b'⟩:=y;simp[Qo,ZY]) A6 A6 A6 A6
def acI:Sj prog 165 NZ:=arC.key A4 ⟨.struct<|prog.fieldsOf 165,A6,λ_ _=>rfl⟩
def sI:Ui prog 40 Mc:=sy.eqs A4 A6
def Sy:Ui prog 31 Bf:=acu.eqs A4 A6
def ary:Ui prog 42 Ar:=acs.eqs A4 A6
def arx:Ui prog 76 LB:=asf.eqs A4 A6
def Acc{Y:Type}(b:Nat)(B:A3 Y->A9 (A3 Y)):Prop:=∀s r,B s=some r->∃ys,r=s++ys/\((s.length*b<=140737488355328->r.length*b<=140737488355328))/\∀s',(s'.length+ys.length)*b<=140737488355328->B s'=some (s'++ys)
section
variable{Y:Type}{b:Nat}
variable{X:Type}{B:X->A3 Y->A9 (A3 Y)}
def Acc.some:Acc (Y:=Y) b λs=>Option.some s:=λs r h=>by cases h;exact⟨[],AT,id,λs' _=>by simp⟩
def Acc.none:Acc (Y:=Y) b λ_=>Option.none:=λs r h=>by cases h
def Acc.bdc{e:A9 X}{K:X->A3 Y->A9 (A3 Y)}(h:∀x,Acc b<|K x):Acc b λs=>bd e λx=>K x s:=λs r hr=>by let⟨x,he,hr⟩:=Nx hr;let⟨ys,h1,h2,h3⟩:=h x s r hr;exact⟨ys,h1,h2,λs' hs=>by rw[he];exact h3 s' hs⟩
def Acc.gc{c:Bool}{K:A3 Y->A9 (A3 Y)}(h:Acc b K):Acc b λs=>gC c (K s):=λs r hr=>by cases c with|false=>cases hr|true=>exact h s r hr
theorem Acc.cond{c:Bool}{A B:A3 Y->A9 (A3 Y)}(h:Acc b A)(k:Acc b B):Acc b λs=>cond c (A s) (B s):=by cases c<;>simp_all [Acc]
def Acc.as2{c:A3 Y->Bool}{A B:A3 Y->A9 (A3 Y)}(hc:∀s,c s=c [])(h:Acc b A)(k:Acc b B):Acc b λs=>_root_.cond (c s) (A s) (B s):=by
 have e:(λs=>_root_.cond (c s) (A s)<|B s)=λs=>_root_.cond (c []) (A s) (B s):=by funext s;rw[hc s]
 rw[e];exact Acc.cond h k
def Acc.app{e:Y}{K:A3 Y->A9 (A3 Y)}(hb:Nat.ble 1 b=true)(h:Acc b K):Acc b λs=>bd (BN b s [e]) λx=>K x:=λs r hr=>by
 have hb:=Dx hb;let⟨x,hx,hr⟩:=Nx hr;have ad8:∀s:A3 Y,(s.length+1)*b<=140737488355328->BN b s [e]=Option.some (s++[e]):=λs hs=>by
  unfold BN;have h1:s.length+1<=9223372036854775807:=by have:=Nat.le_mul_of_pos_right (s.length+1) (show 0<b by omega);omega
  simp[hs,h1]
 have hxs:x=s++[e]/\(s.length+1)*b<=140737488355328:=by
  by_cases hc:(s.length+1)*b<=140737488355328
  .rw[ad8 s hc] at hx;exact⟨(Ez hx).symm,hc⟩
  .unfold BN at hx;simp[hc] at hx
 obtain⟨rfl,Sw⟩:=hxs;let⟨ys,h1,h2,h3⟩:=h _ r hr;refine⟨e::ys,by rw[h1];simp,λ_=>h2 (by simpa using Sw),λs' hs=>?_⟩;have DQ:(s'.length+1+ys.length)*b<=140737488355328:=by
  have:s'.length+(e::ys).length=s'.length+1+ys.length:=by simp;omega
  rwa [this] at hs
 show bd (BN b s' [e]) (λx=>K x)=_;rw[ad8 s'<|Ch (LS b A4) DQ];show K (s'++[e])=_;rw[h3 (s'++[e]) (by simpa using DQ)];simp
def aBc{X:Type}{B:X->A3 Y->A9 (A3 Y)}(hB:∀x,Acc b<|B x):∀{l:A3 X} {s r:A3 Y},Pz B l s=Option.some r->s.length*b<=140737488355328->∃Ys:A3 (A3 Y),Ys.length=l.length/\r=s++Ys.flatten/\r.length*b<=140737488355328/\
  ∀p∈l.zip Ys,∀s',(s'.length+p.2.length)*b<=140737488355328->B p.1 s'=Option.some (s'++p.2)
 |[],s,r,h,hs=>by cases h;exact⟨[],rfl,AT,hs,AT⟩
 |x::l,s,r,h,hs=>by
  let⟨s1,hx,h⟩:=Nx h;let⟨ys,h1,h2,h3⟩:=hB x s s1 hx;let⟨Ys,k1,k2,k3,k4⟩:=aBc hB h<|h2 hs
  refine⟨ys::Ys,by simp[k1],by rw[k2,h1];simp,k3,?_⟩;intro p hp;rw[List.zip_cons_cons,Am] at hp;rcases hp with rfl|hp
  .exact h3
  .exact k4 p hp
def zk{X:Type}{B:X->A3 Y->A9 (A3 Y)}:∀{q:A3 (X×A3 Y)} {s:A3 Y},(∀p∈q,∀s',(s'.length+p.2.length)*b<=140737488355328->B p.1 s'=Option.some (s'++p.2))->(s++(q.map (·.2)).flatten).length*b<=140737488355328->Pz B (q.map (·.1)) s=Option.some (s++(q.map (·.2)).flatten)
 |[],s,_,_=>by simp[Pz]
 |p::q,s,h,hl=>by
  have hl':(s.length+p.2.length+((q.map (·.2)).flatten).length)*b<=140737488355328:=by simpa[LM] using hl
  show bd (B p.1 s) _=_;rw[h p AT s<|Ch (LS b A4) hl'];show Pz B (q.map (·.1)) (s++p.2)=_;rw[zk (λp' hp'=>h p' (by simp[hp'])) (by simpa[LM] using hl')];simp
def akV{Z:Type}:∀{l π:A3 X} {Zs:A3 Z},π.Perm l->Zs.length=l.length->∃q:A3 (X×Z),q.Perm (l.zip Zs)/\q.map (·.1)=π:=by
 intro l π Zs hp
 induction hp generalizing Zs with
 |nil=>intro h;exact⟨[],AT,rfl⟩
 |cons x hp ih=>
  intro h;cases Zs with
  |nil=>simp at h
  |cons z Zs=>obtain⟨q,h1,h2⟩:=ih (by simpa using h);exact⟨(x,z)::q,by simpa using h1,by simp[h2]⟩
 |swap x y l=>
  intro h
  match Zs,h with
  |z1::z2::Zs,h=>
   refine⟨(y,z2)::(x,z1)::l.zip Zs,by simpa using List.Perm.swap _ _ _,?_⟩;have:Zs.length=l.length:=by simpa using h
   simp[List.map_fst_zip,this]
 |trans h1 h2 ih1 ih2=>
  intro h;obtain⟨q2,a1,a2⟩:=ih2 h;obtain⟨q1,b1,b2⟩:=ih1 (Zs:=q2.map (·.2)) (by rw[C2,<-a2,C2]);refine⟨q1,b1.trans ?_,b2⟩;have:(List.zip (q2.map (·.1))<|q2.map (·.2))=q2:=by rw[List.zip_map'];simp
  rw[<-a2,this];exact a1
def amA(hB:∀x,Acc b<|B x){l π:A3 X}{r:A3 Y}(h:Pz B l []=Option.some r)(hp:π.Perm l):∃r',Pz B π []=Option.some r'/\r'.Perm r:=by
 let⟨Ys,h1,h2,h3,h4⟩:=aBc hB h AT;let⟨q,q1,q2⟩:=akV hp h1;have hq:((q.map (·.2)).flatten).Perm r:=by rw[h2,Ie];refine List.Perm.flatten ?_;have:=q1.map (·.2);rwa [List.map_snd_zip A4] at this
 refine⟨_,by rw[<-q2];exact zk (b:=b) (λp hp s' hs=>h4 p (q1.mem_iff.1 hp) s' hs) (by rw[Ie,hq.length_eq];exact h3),?_⟩;simpa using hq
end
section
variable{α:Type}[DecidableEq α]{c:α×α->Option Int}
def xT{rk:α->Nat}:∀{s:A3 α} {x:α},(∀y∈s,∃v,c (x,y)=some v/\(v<0↔rk x<rk y))->s.Pairwise (λa b=>rk b<=rk a)->∃s',OB (λa b=>c (a,b)) x s=some s'/\s'.Pairwise λa b=>rk b<=rk a
 |[],x,_,_=>⟨[x],rfl,AT⟩
 |y::s,x,h,hs=>by
  let⟨v,hv,hr⟩:=h y AT;let⟨hy,DQ⟩:=Hb.1 hs;cases hd:decide (v<0) with
  |true=>
   let⟨s',h1,h2⟩:=xT (λz hz=>h z<|Br _ hz) DQ;refine⟨y::s',?_,Hb.2 ⟨λz hz=>?_,h2⟩⟩
   .show bd (c (x,y)) _=_;rw[hv];show cond (decide<|v<0) _ _=_;rw[hd];show bd (OB (λa b=>c (a,b)) x s) _=_;rw[h1];rfl
   .rcases Am.1 ((fQ h1).mem_iff.1 hz) with e|hz
    .subst e;have:=hr.1<|As hd
     omega
    .exact hy z hz
  |false=>
   refine⟨x::y::s,?_,Hb.2 ⟨λz hz=>?_,hs⟩⟩
   .show bd (c (x,y)) _=_;rw[hv];show cond (decide<|v<0) _ _=_;rw[hd];rfl
   .have hn: ¬rk x<rk y:=λh=>by have:=hr.2 h;simp[this] at hd
    rcases Am.1 hz with e|hz
    .subst e;omega
    .have:=hy z hz;omega
def w8{rk:α->Nat}:∀{l s:A3 α},(∀x∈s++l,∀y∈s++l,∃v,c (x,y)=some v/\(v<0↔rk x<rk y))->s.Pairwise (λa b=>rk b<=rk a)->∃s',JS l (λnext x s=>bd (OB (λa b=>c (a,b)) x s) next) s (λs=>some s.reverse)=some s'/\s'.Pairwise (λa b=>rk a<=rk b)
 |[],s,_,hs=>⟨s.reverse,rfl,List.pairwise_reverse.2 hs⟩
 |x::l,s,h,hs=>by
  let⟨s1,h1,h2⟩:=xT (c:=c) (rk:=rk) (s:=s) (x:=x) (λy hy=>h x AT y (by simp[hy])) hs;have hp:=fQ h1;let⟨s',h3,h4⟩:=w8 (l:=l) (s:=s1) (λa ha b hb=>by
   have mem:∀z,z∈s1++l->z∈s++x::l:=λz hz=>by
    rcases CJ.1 hz with hz|hz
    .rcases Am.1 (hp.mem_iff.1 hz) with e|hz
     .simp[e]
     .simp[hz]
    .simp[hz]
   exact h a (mem a ha) b<|mem b hb) h2
  refine⟨s',?_,h4⟩;show bd (OB (λa b=>c (a,b)) x s) _=_;rw[h1];exact h3
def agi{l l' r:A3 α}(h:Ia l c=some r)(hp:l'.Perm l):Ia l' c=some r:=by
 let⟨h1,h2,h3,h4⟩:=YO h;have mem:∀x∈l',x∈r:=λx hx=>h1.mem_iff.2<|hp.mem_iff.1 hx
 have key:∀x∈l',∀y∈l',∃v,c (x,y)=some v/\(v<0↔r.idxOf x<r.idxOf y):=λx hx y hy=>by
  let⟨v,hv⟩:=h3 x (hp.mem_iff.1 hx) y<|hp.mem_iff.1 hy
  exact⟨v,hv,fj h2 (mem x hx) (mem y hy) hv⟩
 let⟨s',k1,k2⟩:=w8 (c:=c) (rk:=λx=>r.idxOf x) (l:=l') (s:=[]) (by simpa using key) List.Pairwise.nil;have k1:jW (λa b=>c (a,b)) l'=some s':=k1;have e:s'=r:=xx h2 ((wY k1).trans<|hp.trans h1.symm) k2;subst e;unfold Ia;rw[k1];show ES _ s'=_;have g1:Nat.blt l'.length 4611686018427387904=true:=by rw[hp.length_eq];exact Ig h4
 have g2:totB c l'=true:=Dr.2 λx hx=>Dr.2 λy hy=>by let⟨v,hv,_⟩:=key x hx y hy;rw[hv];rfl
 rw[g1,g2,h2];rfl
end
def adi{x4:_}{r:_}(hm:TE (λ(x7:HfZ×V3) (s6:(A3<|HfZ×Bj))=>bd (Xd x7.2) λx9=>cond (x9) (some s6) (bd (QN x7.2) λBK=>cond (!decide (BK.2=(0:Int))) (none) (bd (BN 88 s6 ([((x7.1.1,x7.1.2),BK.1)]:A3 (HfZ×Bj))) λBo=>some Bo))) x4 [] (λ(s6:(A3<|HfZ×Bj))=>bd (Ia s6<|λx=>bj x.1 x.2) λBl=>some (Bl,(0:Int)))=some r):∀π,π.Perm x4->TE (λ(x7:HfZ×V3) (s6:(A3<|HfZ×Bj))=>bd (Xd x7.2) λx9=>cond (x9) (some s6) (bd (QN x7.2) λBK=>cond (!decide (BK.2=(0:Int))) (none) (bd (BN 88 s6 ([((x7.1.1,x7.1.2),BK.1)]:A3 (HfZ×Bj))) λBo=>some Bo))) π [] (λ(s6:(A3<|HfZ×Bj))=>bd (Ia s6<|λx=>bj x.1 x.2) λBl=>some (Bl,(0:Int)))=some r:=by
 intro π hπ;let⟨s,hs,hr⟩:=Nx hm;let⟨s',DQ,hp⟩:=amA (b:=88) (by
  intro x
  repeat' (first|exact Acc.some|exact Acc.none|refine Acc.app rfl ?_|refine Acc.as2 (λ_=>rfl) ?_ ?_|(refine Acc.bdc<|λx=>?_)|fail)) hs hπ
 unfold TE;rw[DQ];let⟨y,hy,hr⟩:=Nx hr;show bd (Ia s' _) _=_;rw[agi hy hp];exact hr
end Trn
namespace P4
section
open Go.Shelf Go.Lib
def af4(m n:Nat)(h:n<=m):(⟨(List.replicate m (48:UInt8)).toArray⟩:ByteArray).extract 0 n=⟨(List.replicate n 48).toArray⟩:=by apply ByteArray.ext;rw[ByteArray.data_extract];apply Array.ext';simp[List.take_replicate,Nat.min_eq_left h]
set_option maxHeartbeats 4000000 in
set_option maxRecDepth 1000000 in
def asU(n:Nat)(h2:2<=n)(h:n<=64)(w:World):Calls prog 265 #[.string ⟨#[48]⟩,.int .i64 n] w λe w'=>e= .returned (.string ⟨(List.replicate n 48).toArray⟩)/\∃k,w'=w.drewN k:=by
 have e317:∀args w,(callFunc 305 args).run prog w= .ok (.enter 305 args) w:=enters_of func305 Trn.A6 rfl;have e232:∀args w,(callFunc 251 args).run prog w= .ok (.enter 251 args) w:=enters_of func251 Trn.A6 rfl;have hmul:=λw=>bits_Mul 1 n Trn.A4 Trn.A4 w
 have hp:=λs w=>strings_HasPrefix s ⟨#[48]⟩ w
 go_enter func265,ntmps265
 go_wp2_with (first|(go_at_fn (305);refine(hmul _).mono ?_;rintro e w' ⟨rfl,rfl⟩)|(go_at_fn (251);refine(hp _ _).mono ?_;rintro e w' ⟨rfl,rfl⟩))
 go_ret
 refine⟨?_,0,by simp[World.drewN_zero]⟩;have hm:n%18446744073709551616=n:=Nat.mod_eq_of_lt Trn.A4;show Ending.returned (Value.string<|ByteArray.extract _ 0<|n%18446744073709551616)=_;rw[hm]
 congr 2
 exact af4 64 n h
end
end P4
namespace Trn
section
open Go.Shelf
variable[D:DR]
variable{cur:BG AV}
theorem ahy{k n:Nat}{ps qs xs:A3 AV}{w:AR}{blk:Nat}{E:Ap}[Inhabited<|Fin n](hl:xs.length=n*k)(hb:w.heap[blk]? =some (.cells cur E (0,0)))(ht:cur.toList=ps++(xs++qs)):Go.Sort.HoldsK (λi:Fin n=>chunk k xs i) k w blk ps.length (Array.ofFn λi:Fin n=>i):=by
 unfold Go.Sort.HoldsK Go.Sort.Holds;intro j hj;rw[Go.Sort.size_flatK,WN] at hj;have MA:cur[ps.length+j]? =xs[j]? :=by rw[<-Ps,ht,Mi A4,Nat.add_sub_cancel_left,Mh A4]
 have hk:0<k:=(M1 k).elim (λe=>by subst e;simp at hj) id;have hi:j/k<n:=Nat.div_lt_of_lt_mul (by rw[MV];exact hj);refine⟨?_,by simp[World.frozen?,hb]⟩;rw[Go.Sort.get_flatK _ _ _ _ (by simpa using hj)];rw[Zb hb,MA];have e1:(Array.ofFn λi:Fin n=>i)[j/k]! =⟨j/k,hi⟩:=by rw[K6 (Array.ofFn λi:Fin n=>i) (j/k) (by simpa using hi)];simp
 rw[e1];have hg:=yc hl hj;have hlt:j%k<(chunk k xs<|j/k).length:=by rw[Tp hl hi];exact OS _ hk
 show xs[j]? =some (id (chunk k xs<|j/k)[j%k]!);rw[<-hg,K6 (chunk k xs<|j/k) (j%k) hlt,Gs hlt];rfl
theorem adp{α:Type}[Inhabited α]{enc:α->A3 AV}{k:Nat}{w:AR}{blk off m:Nat}{dk:BG α}{os:BG Obj}{E:Ap}{fr:Nat×Nat}(hb:w.heap[blk]? =some (.cells cur E fr)):(sortWorldK enc k w blk off m dk os).heap[blk]? =some (.cells (Go.Sort.putCells id off (Go.Sort.flatK enc k dk) cur) E fr):=by
 unfold sortWorldK Go.Sort.grow Go.Sort.putRowK Go.Sort.putRow Go.Sort.mapBlock Go.Sort.ahead;simp only[ik,Array.size_modify,lt_of_heap hb,if_pos,UP,hb,Ph]
 rfl
theorem afu{ps xs qs:A3 AV}{d:BG AV}(h:cur.toList=ps++(xs++qs))(hd:d.size=xs.length):(Go.Sort.putCells id ps.length d cur).toList=ps++(d.toList++qs):=by
 have hs:cur.size=ps.length+(xs.length+qs.length):=by rw[<-Fv,h];simp
 apply WT;intro i;rw[Ps];unfold Go.Sort.putCells;rw[Array.getElem?_mapIdx,<-Ps,h];rcases Hl i ps.length with h1|h1
 .rw[Mh h1,Mh h1];cases ps[i]? with|none=>rfl|some v=>simp;omega
 .rw[Mi h1,Mi h1];rcases Hl (i-ps.length) xs.length with h2|h2
  .rw[Mh h2,Mh (by simpa[hd] using h2),Gs h2,Ph,if_pos ⟨h1,A4⟩,Ps,j4 A4,K6 d _ A4];rfl
  .have e3:d.toList.length=xs.length:=by rw[<-hd];exact Fv
   rw[Mi h2,Mi (by rw[e3];exact h2),e3];cases qs[i-ps.length-xs.length]? with|none=>rfl|some v=>simp;omega
end
section
open Go.Shelf
variable[D:DR]
variable{P:Program}{ρ:Ren}{A:Type}[DecidableEq A]{τ:A->Ty}{k:Nat}{c:A×A->Option Int}
set_option maxHeartbeats 1000000 in
theorem ahY(L:SlLaysF0.n6 P ρ)(aE:∀w,(isAgg<|ρ.t 24).run P w= .ok true w)(zE:∀w,(Go.sizeOf<|ρ.t 24).run P w= .ok k w)(hc:Gq P (ρ.f 6)=true)
  (hn:∀a,(τ a).n=k)(ha:∀a,(τ a).agg=true)(none:∀(p:A9 Addr) (cap:Nat) (fv:AV) (w:AR),Calls P (ρ.f 6) #[.slice p 0 cap,fv] w λe w'=>e= .returned (.tuple #[])/\w'=w)
  {l r:A3 A}(hm:Ia l c=some r){ps qs:A3 AV}:J8 P (ρ.f 6) [] (.F2 (ρ.t 24) ps qs<|lT τ l) (.F2 (ρ.t 24) ps qs<|lT τ r) [TFn P (λx:A×A=>[τ x.1,τ x.2]) (λx:Int=>[(TI .i64) x]) c] []:=by
 let⟨h1,h2,h3,h4⟩:=YO hm;have hrl:r.length=l.length:=h1.length_eq;refine⟨hc,λw H v pv qv sub gl hp hq hs=>?_⟩;have hp:=ZM hp;subst hp;obtain⟨fv,rfl,hfv⟩:=PY hq;obtain⟨g,cap,FD,rfl,RJ,hf⟩:=hfv;obtain⟨blk,Ei,cur,xs,rfl,hblk,MA,Az,hB,jt⟩:=hs;have hlen:(lT τ l).length=l.length:=C2 ..;have Um:(lT τ r).length=l.length:=by rw[C2,hrl]
 rw[hlen];have Lb:∀b,Value.ownBlock (.slice (some ⟨blk,ps.length,.none⟩) l.length Ei)=some b->H b= .none:=λb hb=>by cases hb;exact hB
 by_cases hl0:l=[]
 .subst hl0;have hr:r=[]:=List.Perm.eq_nil h1;subst hr;refine(none _ Ei _ w).mono ?_;rintro e w' ⟨rfl,rfl⟩;exact⟨_,rfl,H,(Tr.refl _ _).Lb sub Lb,⟨blk,Ei,cur,xs,rfl,hblk,MA,Az,hB,jt⟩,λb hb=> .inl hb,#[],rfl,rfl⟩
 .have hpos:0<l.length:=UN.2 hl0
  haveI:Inhabited (Fin l.length):=⟨⟨0,hpos⟩⟩
  let⟨GZ,KX⟩:=Tm hn ha Az
  let cf:Fin l.length->Fin l.length->Int:=λi j=>(c (l[i],l[j])).getD 0
  have tot:∀i j:Fin l.length,c (l[i],l[j])=some (cf i j):=λi j=>by
   let⟨v,hv⟩:=h3 _ (Lz i.2) _<|Lz j.2
   have hv:c (l[i],l[j])=some v:=hv;show c (l[i],l[j])=some ((c (l[i],l[j])).getD 0);rw[hv];rfl
  have Uw:=Eg.can (D:=DR.strict)<|hf _ _<|tot ⟨0,hpos⟩ ⟨0,hpos⟩
  have hcmp:=xd (P:=P) (off:=ps.length) hn ha Az sub gl hB RJ hf cf tot;have hd:(Array.ofFn λi:Fin l.length=>i).size=l.length:=WN;have main:=AnyQ.slices_SortFunc L k aE zE (λi:Fin l.length=>chunk k xs i) (λi=>Tp GZ i.2)
   (λi u hu=>SG Az u<|UO<|Qp hu) cf (yn hm tot) g cap blk ps.length Ei (Array.ofFn λi:Fin l.length=>i) w
   (λargs w=>PC Uw args w) (by rw[hd];exact hcmp) (ahy GZ hblk MA) (lt_of_heap hblk) (by rw[hd];exact h4)
  rw[hd] at main;refine main.mono ?_;rintro e w' ⟨rfl,d',m,os,X2,sA,rfl⟩;let⟨hdz,hdr⟩:=xy hm tot X2 sA;have L2:(Go.Sort.flatK (λi:Fin l.length=>chunk k xs i) k d').size=l.length*k:=by rw[Go.Sort.size_flatK,hdz]
  refine⟨_,rfl,H,Tr.Lb (M:=λb=>Value.ownBlock (.slice (some ⟨blk,ps.length,.none⟩) l.length Ei)=some b) ⟨lN,rfl,rfl,rfl,?_,λi hi hne=>Xn hi (λe=>hne (by rw[e];rfl))⟩ sub Lb,⟨blk,Ei,_,(Go.Sort.flatK (λi:Fin l.length=>chunk k xs i) k d').toList,by rw[Um],adp hblk,afu MA (by rw[L2,GZ]),?_,hB,jt⟩,λb hb=> .inl hb,#[],rfl,rfl⟩
  .refine H9.of ?_;show w.drawn<=(sortWorldK _ k w blk _ m d' os).drawn;unfold sortWorldK Go.Sort.grow Go.Sort.putRowK Go.Sort.putRow Go.Sort.mapBlock Go.Sort.ahead;exact UI _ _
  .refine df (by rw[Fv,L2,hrl]) λi hi=>?_
   have hi2:i<d'.size:=A4;rw[o0 (λi=>Tp GZ i.2) hi2];rw[K6 d' i hi2];have e:r[i]=l[d'[i]]:=by
    have:r[i]? =(d'.toList.map λi=>l[i])[i]? :=by rw[hdr]
    rw[Gs hi,HL,Ps,j4 hi2] at this;simpa using this
   rw[e];exact KX _ d'[i].2
end
section
variable[D:DR]
variable{l r:A3 V3}
theorem aj3{l r:A3 (HfZ×Bj)}{c:(HfZ×Bj)×(HfZ×Bj)->A9 Int}(hm:Ia l c=some r):J8 prog 102 [] (.buf 76 7<|lT LB l) (.buf 76 7<|lT LB r) [(TFn prog (λ(x:(HfZ×Bj)×(HfZ×Bj))=>[LB x.1,LB x.2])<|λ(x:Int)=>[(TI .i64) x]) c] []:=oH (ρ:=wO) aBx (k:=7) isAgg76 sizeOf76 A6 (λ_=>rfl) (λ_=>rfl) (AnyF.slices_SortFunc_none aBx) hm
theorem aj2{c:V3×V3->A9 Int}(hm:Ia l c=some r):J8 prog 218 [] (.buf 86 12<|lT B4 l) (.buf 86 12<|lT B4 r) [(TFn prog (λ(x:V3×V3)=>[B4 x.1,B4 x.2])<|λ(x:Int)=>[(TI .i64) x]) c] []:=oH (ρ:=nE) gR (k:=12) isAgg86 sizeOf86 A6 (λ_=>rfl) (λ_=>rfl) (AnyF.slices_SortFunc_none gR) hm
theorem ahf{c:V3×V3->A9 Int}(hm:Ia l c=some r){ps qs:A3 AV}:J8 prog 218 [] (.F2 86 ps qs<|lT B4 l) (.F2 86 ps qs<|lT B4 r) [(TFn prog (λ(x:V3×V3)=>[B4 x.1,B4 x.2])<|λ(x:Int)=>[(TI .i64) x]) c] []:=ahY (ρ:=nE) gR (k:=12) isAgg86 sizeOf86 A6 (λ_=>rfl) (λ_=>rfl) (AnyF.slices_SortFunc_none gR) hm
theorem afa{c:V3×V3->A9 Bool}(hm:Yn l c=some r):jH prog 234 86 12 (lT B4 l) [(TFn prog (λ(x:V3×V3)=>[B4 x.1,B4 x.2])<|λ(x:Bool)=>[Ay x]) c] (lT B4 r):=
 agQ (k:=12) A6 (λ_=>rfl) (λ_=>rfl) P4.ai9
  (P4.ai8 func234 mixed rfl underlying3 isAgg3 sizeOf3 zeroValue3 underlying4 isAgg4 sizeOf4 underlying129 isAgg129 sizeOf129 isAgg86 sizeOf86 _ zeroValue86 (by rfl) L9) hm
theorem aj1{l r:BdZ}{c:HfZ×HfZ->A9 Int}(hm:Ia l c=some r):J8 prog 259 [] (.buf 42 4<|lT Ar l) (.buf 42 4<|lT Ar r) [(TFn prog (λ(x:HfZ×HfZ)=>[Ar x.1,Ar x.2])<|λ(x:Int)=>[(TI .i64) x]) c] []:=oH (ρ:=wN) aBt (k:=4) isAgg42 sizeOf42 A6 (λ_=>rfl) (λ_=>rfl) (AnyF.slices_SortFunc_none aBt) hm
theorem aol{x r:A3 (A3<|PlZ×A3 V3)}{n:Int}(hm:rL x n=some r):Eg prog 187 [(TN<|TL C6) x,(TI .i64) n] (.fr 112 1<|lT (TL C6) r):=ajg (ρ:=wZ) ao4 (i0:=(prog.info? 112).get A6) (z:= .slice none 0 0) (sz:=1) A6 A6 A6 L9 rfl (Dx A6) A6 hm
def ac5{w:AR}{H:HV}(sub:∀r o,H r=some o->w.heap[r]? =some o)(gl:LY prog H):Lib.TabIs prog w "internal/strconv.uint64pow10" .u64 Lib.pow10Tab:=by
 obtain⟨g,hg,T,hT,e,hu⟩:∃g,prog.globalNamed "internal/strconv.uint64pow10" =some g/\∃T,(prog.globals[g]?).map (·.type)=some T/\∃e,prog.underlying T=some (.array 20 e):=by refine⟨((prog.globalNamed "internal/strconv.uint64pow10").getD 0),A6,((prog.globals[((prog.globalNamed "internal/strconv.uint64pow10").getD 0)]?).map (·.type)).getD 0,A6,272,A6⟩
 have:=gl g T hT;unfold Sp at this;rw[hu] at this;let⟨E,fr,e'⟩:=this;unfold Lib.TabIs World.var?;rw[hg];show(match w.heap[g]? with|some (.cells cs _ _)=>some cs|_=>none)=_;rw[sub _ _ e'];show some eh=_
 congr 1
def aok{x:Int}{r:AA}(hm:aO x=some r):AQ 262 [TI .i64 x] [TS r]:=by
 unfold aO at hm;cases hb:IL x
 .rw[hb] at hm;cases hm
 .rw[hb] at hm;have hm:some (C8 x)=some r:=hm;cases hm;unfold IL at hb;let⟨h1,h2⟩:=EG hb;have h1:=As h1;have h2:=As h2;refine S8 A6 λw H vs sub gl ha=>?_
  obtain⟨u,rfl,hu⟩:=PY ha;have hu:u= .int .i64 x:=hu;subst hu;refine(strconv_Itoa x h1 h2 w<|ac5 sub gl).mono ?_;rintro e w' ⟨rfl,k,os,rfl⟩;refine⟨_,rfl,⟨P4.xi,H9.of<|UI _ _⟩,?_⟩;show Value.string _=Value.string _
  congr 3
  unfold C8 Lib.itoa;by_cases h:x<0
  .rw[if_pos h,B9 h,Wg];rfl
  .rw[if_neg h,CB h,Wg,show x.natAbs=x.toNat from by omega];rfl
def aom{x y:Int}{r:AA}(hm:jS x y=some r):AQ 264 [TI .u64 x,TI .i64 y] [TS r]:=by
 obtain⟨hb,rfl⟩:=HK hm;let⟨hb,h3⟩:=EG hb;let⟨h1,h2⟩:=EG hb;have h1:=As h1;have h2:=As h2;have h3:=As h3;subst h3;obtain⟨n,rfl⟩:=FA h1;refine S8 A6 λw H vs sub gl ha=>?_
 obtain⟨u,v,rfl,hu,hv⟩:=U8 ha;have hu:u= .int .u64 n:=hu;have hv:v= .int .i64 10:=hv;subst hu;subst hv;refine(P4.ag7 n A4 w<|ac5 sub gl).mono ?_;rintro e w' ⟨rfl,k,os,rfl⟩;refine⟨_,rfl,⟨P4.xi,H9.of<|UI _ _⟩,?_⟩;show Value.string _=Value.string _;rw[Ci,Wg]
def aoj{x:AA}{y:Int}{r:AA}(hm:jR x y=some r):AQ 265 [TS x,TI .i64 y] [TS r]:=by
 obtain⟨hb,rfl⟩:=HK hm;let⟨hb,h3⟩:=EG hb;let⟨h1,h2⟩:=EG hb;have h1:=As h1;have h2:=As h2;have h3:=As h3;subst h3;obtain⟨n,rfl⟩:=FA h1;refine S8 A6 λw H vs sub gl ha=>?_
 obtain⟨u,v,rfl,hu,hv⟩:=U8 ha;have hu:u= .string ⟨#[48]⟩:=hu;have hv:v= .int .i64 n:=hv;subst hu;subst hv;rw[Ci];rcases(show n=0\/n=1\/2<=n by omega) with h|h|h
 .subst h;refine(strings_Repeat_zero ⟨#[48]⟩ w).mono ?_;rintro e w' ⟨rfl,rfl⟩;exact⟨_,rfl,Fc.refl _ _,rfl⟩
 .subst h;refine(strings_Repeat_one ⟨#[48]⟩ w).mono ?_;rintro e w' ⟨rfl,rfl⟩;exact⟨_,rfl,Fc.refl _ _,rfl⟩
 .refine(P4.asU n h A4 w).mono ?_;rintro e w' ⟨rfl,k,rfl⟩;refine⟨_,rfl,⟨⟨rfl,rfl,rfl,BQ _,λ_ _=>rfl⟩,H9.of<|UI _ _⟩,?_⟩;show Value.string _=Value.string _;rw[aCw]
end
end Trn
