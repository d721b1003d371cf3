/- Part of SolidCuts. -/
import Derived.Test.YtieipfegkfhllaaGreatDoorFa
import Derived.Test.YtieipfegkfhllaaGreatDoorMa
import Derived.Test.YtieipfegkfhllaaGreatDoorSa
import Derived.Shelf.SlSortCmp.NoneTotal
set_option maxRecDepth 100000
set_option maxHeartbeats 20000000
set_option linter.all false
open Go Go.RowKit Go.Proofs Go.Proofs.Tryz
namespace Trn
section
open Go.Shelf
variable[D:DR]
variable{k:Nat}{xs:A3 AV}
def chunk(k:Nat)(xs:A3 AV)(i:Nat):A3 AV:=(xs.drop<|i*k).take k
theorem TZ{n:Nat}(h:xs.length=n*k){i:Nat}(hi:i<n):(chunk k xs i).length=k:=by have:(i+1)*k<=n*k:=LL k hi;rw[Ka,Mq] at this;simp[chunk];omega
theorem xk{n:Nat}(h:xs.length=n*k){t:Nat}(ht:t<n*k):(chunk k xs<|t/k)[t%k]? =xs[t]? :=by
 have hk:0<k:=(LJ k).elim (λe=>by subst e;simp at ht) id;have hm:=OL t hk;unfold chunk;rw[WH,if_pos hm,U6]
 congr 1
 rw[MJ];exact Nat.div_add_mod t k
theorem ahh{ys:A3 AV}(h:ys.length=k):chunk k (ys++xs) 0=ys:=by simp[chunk,<-h]
theorem ahi{ys:A3 AV}(h:ys.length=k)(i:Nat):chunk k (ys++xs) (i+1)=chunk k xs i:=by
 unfold chunk;rw[Ka,Mq,PW,<-h,NX];have e:List.drop (ys.length+i*ys.length) ys=[]:=List.drop_eq_nil_of_le A4;rw[e,K7]
 congr 2;omega
end
section
open Go.Shelf
variable[D:DR]
variable{P:Program}{A:Type}{τ:A->Ty}{k:Nat}{H:HV}
theorem TV(hn:∀a,(τ a).n=k)(ha:∀a,(τ a).agg=true):∀{l:A3 A} {xs:A3 AV},DT H (lT τ l) xs->xs.length=l.length*k/\∀i (hi:i<l.length),(τ l[i]).ok H (.agg (chunk k xs i).toArray)
 |[],xs,h=>by have h:xs=[]:=h;subst h;exact⟨AX,λi hi=>absurd hi<|Nat.not_lt_zero _⟩
 |a::l,xs,h=>by
  let⟨v,rest,e,hv,hr⟩:=h;have sh:=(τ a).shape hv;let⟨hl,hc⟩:=TV hn ha hr;have hs:v.cells.toList.length=k:=by rw[Fa,sh.size,hn]
  subst e;refine⟨by simp[E7,hs,hl,E6];rw[Ka];omega,λi hi=>?_⟩;cases i with
  |zero=>rw[ahh hs];have e:=sh.eq;rw[ha] at e;have e:v= .agg v.cells:=e;simpa[<-e] using hv
  |succ i=>rw[ahi hs];exact hc i (by simpa using hi)
theorem dW:∀{l:A3 A} {xs:A3 AV},xs.length=l.length*k->(∀i (hi:i<l.length),(τ l[i]).ok H<| .agg (chunk k xs i).toArray)->DT H (lT τ l) xs
 |[],xs,h,_=>LN (by simpa using h)
 |a::l,xs,h,hc=>by
  have hlen:xs.length=k+l.length*k:=by simpa[Ka,PW] using h
  have h0:=hc 0 AX;have e0:chunk k xs 0=xs.take k:=by simp[chunk]
  rw[e0] at h0;refine⟨_,xs.drop k,?_,h0,dW (by simp[hlen]) λi hi=>?_⟩
  .simp[Value.cells]
  .have:=hc (i+1) (by simpa using hi);have e:chunk k xs (i+1)=chunk k (xs.drop k) i:=by unfold chunk;rw[FR,Ka,Mq,PW]
   rwa [e] at this
end
section
open Go.Shelf
variable[D:DR]
variable{w:AR}
theorem aa8{w':AR}(h: @FO DR.strict w.heap.size w w'):∃q os,w'=Go.Sort.grow (w.drewN q) os:=by
 refine⟨w'.drawn-w.drawn,w'.heap.extract w.heap.size w'.heap.size,?_⟩;have hd:w.drawn+(w'.drawn-w.drawn)=w'.drawn:=by have h:w.drawn<=w'.drawn:=FO.drawn (D:=DR.strict) h;omega
 have hh:w.heap++w'.heap.extract w.heap.size w'.heap.size=w'.heap:=by
  apply Array.ext_getElem?;intro i;rw[iQ];have hs:=(FO.toBelow (D:=DR.strict) h).size;split
  .rename_i hi;exact((FO.toBelow (D:=DR.strict) h).block i hi).symm
  .grind
 let⟨heap,tape,drawn,os,output⟩:=w';let⟨avC,av8,av6,os0,av3⟩:=w;simp only[World.drewN,Go.Sort.grow];simp[World.mk.injEq];have hb:=FO.toBelow (D:=DR.strict) h;exact⟨hh.symm,hb.tape,hd.symm,hb.os,hb.output⟩
theorem Xd{α:Type}[Inhabited α]{enc:α->A3 AV}{k:Nat}{blk off m:Nat}{dk:B8 α}{os:B8 Obj}{r:Nat}(hr:r<w.heap.size)(hne:r≠blk):(sortWorldK enc k w blk off m dk os).heap[r]? =w.heap[r]? :=by unfold sortWorldK Go.Sort.grow Go.Sort.putRowK Go.Sort.putRow Go.Sort.mapBlock Go.Sort.ahead;simp only[iQ,Array.size_modify,hr,if_pos,U9];rw[if_neg<|λe=>hne e.symm]
theorem kq{α:Type}[Inhabited α]{enc:α->A3 AV}{k:Nat}{blk off m:Nat}{dk:B8 α}{os:B8 Obj}:w.heap.size<=(sortWorldK enc k w blk off m dk os).heap.size:=by unfold sortWorldK Go.Sort.grow Go.Sort.putRowK Go.Sort.putRow Go.Sort.mapBlock Go.Sort.ahead;simp
end
section
open Go.Shelf
variable[D:DR]
variable{P:Program}{A:Type}{τ:A->Ty}{k:Nat}{H:HV}{c:A×A->Option Int}
theorem wR(hn:∀a,(τ a).n=k)(ha:∀a,(τ a).agg=true){l:A3 A}{xs:A3 AV}{w:AR}{blk off g:Nat}{cap:B8 AV}{F2:A3 Ty}(hxs:DT H (lT τ l) xs)
  (sub:∀r o,H r=some o->w.heap[r]? =some o)(gl:LP P H)(hB:H blk=none)(Qt:Ec H F2 cap.toList)
  (hf:∀a r,c a=some r-> @Ef DR.strict P g ([τ a.1,τ a.2]++F2) (.vs [TI .i64 r]))(cf:Fin l.length->Fin l.length->Int)(tot:∀i j,c (l[i],l[j])=some (cf i j))[Inhabited<|Fin l.length]:CmpLays P g cap (λi:Fin l.length=>chunk k xs i) k cf blk off l.length w:=by
 intro m os dk hdk x y;let⟨_,hc⟩:=TV hn ha hxs;have hs:∀r o,H r=some o->(sortWorldK (λi:Fin l.length=>chunk k xs i) k w blk off m dk os).heap[r]? =some o:=λr o h=>by have h1:=sub r o h;rw[Xd (lt_of_heap h1) (λe=>by rw[e,hB] at h;cases h)];exact h1
 have hr:=Ef.run (D:=DR.strict) (hf (l[x],l[y]) _<|tot x y) _ H ([Value.agg (chunk k xs x).toArray,Value.agg (chunk k xs y).toArray]++cap.toList) hs gl<|YP ⟨_,_,rfl,hc x x.2,_,_,rfl,hc y y.2,rfl⟩ Qt
 have ea:([Value.agg (chunk k xs x).toArray,Value.agg (chunk k xs y).toArray]++cap.toList).toArray= #[Value.agg (chunk k xs x).toArray,Value.agg (chunk k xs y).toArray]++cap:=AX;rw[ea] at hr;refine hr.mono ?_;rintro e w' ⟨v,rfl,hb,H',_,_,hv⟩;have hv:v= .int .i64 (cf x y):=hv;subst hv;exact⟨rfl,aa8 hb⟩
end
section
open Go.Shelf
variable[D:DR]
variable{α:Type}{k:Nat}{cur:B8 AV}
theorem nM[Inhabited α]{enc:α->A3 AV}(hk:∀x,(enc x).length=k){d:B8 α}{i:Nat}(hi:i<d.size):chunk k (Go.Sort.flatK enc k d).toList i=enc d[i]! :=by
 have hb:i*k+k<=d.size*k:=by
  have:=LL k<|show i+1<=d.size from hi
  rwa [Ka,Mq] at this
 apply WC;intro t;unfold chunk;rw[WH];by_cases ht:t<k
 .rw[if_pos ht,U6,Pm];have hlt:i*k+t<d.size*k:=A4;have e1:(i*k+t)/k=i:=by rw[MJ,Nat.mul_add_div A4,Nat.div_eq_of_lt ht,Tw]
  have e2:(i*k+t)%k=t:=by rw[MJ,Nat.mul_add_mod,S9 ht]
  have hl:=hk d[i]!;unfold Go.Sort.flatK;rw[Array.getElem?_map,Array.getElem?_range,if_pos hlt,Pb,e1,e2,K5 (enc d[i]!) t A4,Gf A4]
 .grind
theorem vC{n:Nat}{xs:A3 AV}{w:AR}{blk:Nat}{E:Am}[Inhabited<|Fin n](hl:xs.length=n*k)(hb:w.heap[blk]? =some (.cells cur E (0,0)))(ht:cur.toList.take (n*k)=xs):Go.Sort.HoldsK (λi:Fin n=>chunk k xs i) k w blk 0 (Array.ofFn λi:Fin n=>i):=by
 unfold Go.Sort.HoldsK Go.Sort.Holds;intro j hj;rw[Go.Sort.size_flatK,W7] at hj;have M3:cur[j]? =xs[j]? :=AL;have hk:0<k:=(LJ k).elim (λe=>by subst e;simp at hj) id;have hi:j/k<n:=Nat.div_lt_of_lt_mul (by rw[MJ];exact hj);refine⟨?_,by simp[World.frozen?,hb]⟩;rw[Go.Sort.get_flatK _ _ _ _ (by simpa using hj),PX];rw[ZR hb,M3];have e1:(Array.ofFn λi:Fin n=>i)[j/k]! =⟨j/k,hi⟩:=by rw[K5 (Array.ofFn λi:Fin n=>i) (j/k) (by simpa using hi)];simp
 rw[e1];have hg:=xk hl hj;have hlt:j%k<(chunk k xs<|j/k).length:=AL;show xs[j]? =some (id (chunk k xs<|j/k)[j%k]!);rw[<-hg,K5 (chunk k xs<|j/k) (j%k) hlt,Gf hlt];rfl
theorem tC[Inhabited α]{enc:α->A3 AV}{w:AR}{blk m:Nat}{dk:B8 α}{os:B8 Obj}{E:Am}{fr:Nat×Nat}(hb:w.heap[blk]? =some (.cells cur E fr)):(sortWorldK enc k w blk 0 m dk os).heap[blk]? =some (.cells (Go.Sort.putCells id 0 (Go.Sort.flatK enc k dk) cur) E fr):=by
 unfold sortWorldK Go.Sort.grow Go.Sort.putRowK Go.Sort.putRow Go.Sort.mapBlock Go.Sort.ahead;simp only[iQ,Array.size_modify,lt_of_heap hb,if_pos,U9,hb,Pb]
 rfl
theorem ug[Inhabited α]{d:B8 AV}(h:d.size<=cur.size):(Go.Sort.putCells id 0 d cur).toList.take d.size=d.toList:=by
 apply WC;intro i;rw[WH];split
 .rename_i hi;rw[Pm,Pm];unfold Go.Sort.putCells;rw[Array.getElem?_mapIdx,iW (by omega:i<cur.size),Pb,if_pos ⟨FQ _,A4⟩,Nat.sub_zero,iW hi,K5 d i hi];rfl
 .grind
end
section
open Go.Shelf
variable[D:DR]
variable{P:Program}{ρ:Ren}{A:Type}[DecidableEq A]{τ:A->Ty}{k:Nat}{c:A×A->Option Int}
variable{l r:A3 A}
theorem aiq{α:Type}{l:A3 α}{d:B8 (Fin l.length)}(h:d.toList.Perm (Array.ofFn λi:Fin l.length=>i).toList):(d.toList.map λi=>l[i]).Perm l:=by
 have h1:=h.map λi:Fin l.length=>l[i]
 have e:(Array.ofFn λi:Fin l.length=>i).toList.map (λi:Fin l.length=>l[i])=l:=by rw[Array.toList_ofFn,List.map_ofFn];exact List.ofFn_getElem
 rwa [e] at h1
theorem wz(hm:Ic l c=some r)[Inhabited<|Fin l.length]{cf:Fin l.length->Fin l.length->Int}(tot:∀i j,c (l[i],l[j])=some (cf i j)){d:B8 (Fin l.length)}
 (hp:Go.Sort.PermIn 0 l.length (Array.ofFn λi:Fin l.length=>i) d)(hs:Go.Sort.SortedIn (ltOf cf) 0 l.length d):d.size=l.length/\(d.toList.map λi=>l[i])=r:=by
 let⟨h1,h2,_,_⟩:=YD hm;let⟨hz,_,Wm⟩:=hp;rw[W7] at hz;have e1:d.extract 0 d.size=d:=Array.extract_size;rw[hz] at e1;have e2:(Array.ofFn λi:Fin l.length=>i).extract 0 l.length=Array.ofFn λi:Fin l.length=>i:=by
  have h:(Array.ofFn λi:Fin l.length=>i).extract 0 (Array.ofFn λi:Fin l.length=>i).size=Array.ofFn λi:Fin l.length=>i:=Array.extract_size
  rwa [W7] at h
 rw[e1,e2] at Wm;have KR:=aiq Wm;refine⟨hz,wy h2 (KR.trans h1.symm) ?_⟩;refine Ze.2 λi j hi hj KT=>?_
 simp[Be,Fa] at hi hj;have hlt:=hs i j (FQ _) KT A4;rw[K5 d j hj,K5 d i hi] at hlt;simp only[List.getElem_map,Array.getElem_toList];have hn: ¬cf d[j] d[i]<0:=by simpa[ltOf] using hlt
 have mem:∀i:Fin l.length,l[i]∈r:=λi=>h1.mem_iff.2<|Lv _
 have:=mt (fR h2 (mem d[j]) (mem d[i])<|tot d[j] d[i]).2 hn;omega
theorem xx(hm:Ic l c=some r){cf:Fin l.length->Fin l.length->Int}(tot:∀i j,c (l[i],l[j])=some (cf i j)):Go.Sort.SWO (ltOf cf):=by
 let⟨h1,h2,_,_⟩:=YD hm;have mem:∀i:Fin l.length,l[i]∈r:=λi=>h1.mem_iff.2<|Lv _
 have key:∀i j,ltOf cf i j=decide (r.idxOf l[i]<r.idxOf l[j]):=λi j=>by unfold ltOf;exact HX.2<|fR h2 (mem i) (mem j)<|tot i j
 refine⟨λx=>?_,λx y z h1 h2=>?_,λx y z h1 h2=>?_⟩
 .rw[key];simp
 .grind
 .grind
theorem ak9(hn:∀a,(τ a).n=k)(ha:∀a,(τ a).agg=true){xs:A3 AV}{H:HV}{w:AR}{blk Eh:Nat}{cur:B8 AV}{E:Am}{B:Aj P}(sub:∀r o,H r=some o->w.heap[r]? =some o)(Aw:DT H (lT τ l) xs)
 (hown:∀b,Value.ownBlock (.slice (some ⟨blk,0,none⟩) l.length Eh)=some b->H b=none/\B.EC b)(hblk:w.heap[blk]? =some (.cells cur E (0,0)))(hnc:l.length<=Eh)(hcm:Eh<=maxLen)(hcs:cur.size=Eh*k)[Inhabited<|Fin l.length]
 {d':B8 (Fin l.length)}(hdz:d'.size=l.length)(hdr:(d'.toList.map λi=>l[i])=r)(m:Nat)(os:B8 Obj):Qv (λb=>Value.ownBlock (.slice (some ⟨blk,0,none⟩) l.length Eh)=some b) w H (sortWorldK (λi:Fin l.length=>chunk k xs i) k w blk 0 m d' os) H/\Ke B (sortWorldK (λi:Fin l.length=>chunk k xs i) k w blk 0 m d' os) H E k (lT τ r) (.slice (some ⟨blk,0,none⟩) l.length Eh):=by
 let⟨GN,KU⟩:=TV hn ha Aw;have hrl:r.length=l.length:=AL;have Hd:=tC (enc:=λi:Fin l.length=>chunk k xs i) (k:=k) (m:=m) (dk:=d') (os:=os) hblk;have Kw:(Go.Sort.flatK (λi:Fin l.length=>chunk k xs i) k d').size=l.length*k:=by rw[Go.Sort.size_flatK,hdz]
 have hle:l.length*k<=cur.size:=by rw[hcs];exact LL k hnc
 have Nz:=ug (α:=Fin l.length) (d:=Go.Sort.flatK (λi:Fin l.length=>chunk k xs i) k d') (cur:=cur) (by rw[Kw];exact hle);refine⟨Tr.LS (M:=λb=>Value.ownBlock (.slice (some ⟨blk,0,.none⟩) l.length Eh)=some b) ⟨kq,rfl,rfl,rfl,?_,λi hi hne=>Xd hi (λe=>hne (by rw[e];rfl))⟩ sub λb hb=>(hown b hb).1,⟨(Go.Sort.flatK (λi:Fin l.length=>chunk k xs i) k d').toList,?_,?_,hown⟩⟩
 .refine Gv.of ?_;show w.drawn<=(sortWorldK _ k w blk 0 m d' os).drawn;unfold sortWorldK Go.Sort.grow Go.Sort.putRowK Go.Sort.putRow Go.Sort.mapBlock Go.Sort.ahead;exact U3 _ _
 .have UX:(lT τ r).length=l.length:=by rw[Be,hrl]
  rw[UX];refine⟨by rw[Fa,Kw],.inr ⟨blk,Eh,_,rfl,FQ _,Hd,hnc,hcm,?_,?_⟩⟩
  .rw[<-hcs];simp[Go.Sort.putCells]
  .grind
 .refine dW (by rw[Fa,Kw,hrl]) λi hi=>?_
  have hi2:i<d'.size:=A4;rw[nM (λi=>TZ GN i.2) hi2];rw[K5 d' i hi2];have e:r[i]=l[d'[i]]:=AL;rw[e];exact KU _ d'[i].2
set_option maxHeartbeats 1000000 in
theorem nZ(L:SlLaysF0.n6 P ρ)(aE:∀w,(isAgg<|ρ.t 24).run P w= .ok true w)(zE:∀w,(Go.sizeOf<|ρ.t 24).run P w= .ok k w)(hc:Gd P (ρ.f 6)=true)
 (hn:∀a,(τ a).n=k)(ha:∀a,(τ a).agg=true)(none:∀(p:AA Addr) (cap:Nat) (fv:AV) (w:AR),Calls P (ρ.f 6) #[.slice p 0 cap,fv] w λe w'=>e= .returned (.tuple #[])/\w'=w)
 (hm:Ic l c=some r):JB P (ρ.f 6) [] (.buf (ρ.t 24) k<|lT τ l) (.buf (ρ.t 24) k<|lT τ r) [L1 P (λx:A×A=>[τ x.1,τ x.2]) (λx:Int=>[(TI .i64) x]) c] []:=by
 let⟨h1,h2,h3,h4⟩:=YD hm;refine⟨hc,λw H v ps qs sub gl hp hq hs=>?_⟩;have hp:=Z8 hp;subst hp;obtain⟨fv,rfl,hfv⟩:=PT hq;obtain⟨g,cap,F2,rfl,Qt,hf⟩:=hfv;let⟨xs,hown,Aw,hH⟩:=hs;have hlen:(lT τ l).length=l.length:=Be ..;rw[hlen] at hown;have LS:∀b,v.ownBlock=some b->H b= .none:=λb hb=>(hH b hb).1
 by_cases hl0:l=[]
 .subst hl0;have hr:r=[]:=List.Perm.eq_nil h1;subst hr;obtain⟨p,Eh,rfl⟩:∃p Eh,v= .slice p 0 Eh:=by
   rcases hown.2 with⟨hv,_⟩|⟨g,cap,cur,hv,_⟩
   .grind
   .grind
  refine(none p Eh _ w).mono ?_;rintro e w' ⟨rfl,rfl⟩;exact⟨_,rfl,H,(Tr.refl _ _).LS sub LS,⟨xs,hown,Aw,hH⟩,λb hb=> .inl hb,#[],rfl,rfl⟩
 .have hpos:0<l.length:=WI.2 hl0;obtain⟨blk,Eh,cur,rfl,hblk,hnc,hcm,hcs,htake⟩:∃blk Eh cur,v= .slice (some ⟨blk,0,.none⟩) l.length Eh/\w.heap[blk]? =some (.cells cur (ρ.t 24) (0,0))/\l.length<=Eh/\Eh<=maxLen/\cur.size=Eh*k/\cur.toList.take (l.length*k)=xs:=by
   rcases hown.2 with⟨_,hz⟩|⟨g,cap,cur,hv,_,r⟩
   .omega
   .grind
  haveI:Inhabited (Fin l.length):=⟨⟨0,hpos⟩⟩
  let⟨GN,KU⟩:=TV hn ha Aw
  let cf:Fin l.length->Fin l.length->Int:=λi j=>(c (l[i],l[j])).getD 0
  have tot:∀i j:Fin l.length,c (l[i],l[j])=some (cf i j):=λi j=>by
   let⟨v,hv⟩:=h3 _ (Lv i.2) _<|Lv j.2
   have hv:c (l[i],l[j])=some v:=hv;show c (l[i],l[j])=some ((c (l[i],l[j])).getD 0);rw[hv];rfl
  have hB:H blk= .none:=LS blk rfl;have Ug:=Ef.can (D:=DR.strict)<|hf _ _<|tot ⟨0,hpos⟩ ⟨0,hpos⟩
  have hcmp:=wR (P:=P) (off:=0) hn ha Aw sub gl hB Qt hf cf tot;have hd:(Array.ofFn λi:Fin l.length=>i).size=l.length:=W7;have main:=AnyQ.slices_SortFunc L k aE zE (λi:Fin l.length=>chunk k xs i) (λi=>TZ GN i.2)
   (λi u hu=>Rp Aw u<|U8<|Qe hu) cf (xx hm tot) g cap blk 0 Eh (Array.ofFn λi:Fin l.length=>i) w
   (λargs w=>P6 Ug args w) (by rw[hd];exact hcmp) (vC GN hblk htake) (lt_of_heap hblk) (by rw[hd];exact h4)
  rw[hd] at main;refine main.mono ?_;rintro e w' ⟨rfl,d',m,os,Wm,qw,rfl⟩;let⟨hdz,hdr⟩:=wz hm tot Wm qw;let⟨ht,hr⟩:=ak9 hn ha (B:=Aj.Oo P w λb=>(AQ.buf (ρ.t 24) k<|lT τ l).owns w (.slice (some ⟨blk,0,.none⟩) l.length Eh) b) sub Aw hH hblk hnc hcm hcs hdz hdr m os;exact⟨_,rfl,H,ht,hr,λb hb=> .inl hb,#[],rfl,rfl⟩
end
section
open Go.Shelf Go.Sort
variable[D:DR]
variable{n:Nat}{dk:B8 (Fin n)}{kp:Nat->Bool}{k m kk blk off:Nat}
structure O1(n:Nat)(kp:Nat->Bool)(m kk:Nat)(dk:B8 (Fin n)):Prop where
 size:dk.size=n
 le:kk<m
 low:(dk.toList.take kk).map (·.val)=(List.range m).filter kp
 high:∀j (hj:j<n),m-1<=j->∀h:j<dk.size,dk[j]=⟨j,hj⟩
theorem O1.len(h:O1 n kp m kk dk)(hm:m<=n):kk=((List.range m).filter kp).length:=by rw[<-h.low,Be,E1,Fa,h.size];have:=h.le;omega
theorem O1.start(hk:k<n)(hall:∀j,j<k->kp j=true)(hn:kp k=false):O1 n kp (k+1) k (Array.ofFn λi:Fin n=>i):=by
 refine⟨AX,A4,?_,λj hj _ h=>by simp⟩;rw[List.range_succ,WG,List.filter_eq_self.2<|λj hj=>hall j<|Qa.1 hj];have e:List.filter kp [k]=[]:=by simp[hn]
 rw[e,Ig,Array.toList_ofFn];apply WC;intro i;rw[Gy,WH];by_cases hi:i<k
 .rw[if_pos hi,Gf DD,Gf (by simpa using hi)];simp
 .rw[if_neg hi,List.getElem?_eq_none (by simpa using hi)];rfl
theorem O1.skip(h:O1 n kp m kk dk)(hn:kp m=false):O1 n kp (m+1) kk dk:=by have:=h.le;refine⟨h.size,A4,?_,λj hj hm=>h.high j hj A4⟩;rw[List.range_succ,WG,<-h.low];simp[hn]
theorem O1.E3(h:O1 n kp m kk dk)(hm:m<n)(hn:kp m=true):O1 n kp (m+1) (kk+1) (dk.setIfInBounds kk ⟨m,hm⟩):=by
 have h0:=h.le;refine⟨by simp[h.size],A4,?_,λj hj KS h2=>?_⟩
 .rw[List.range_succ,WG,<-h.low];have e:List.filter kp [m]=[m]:=by simp[hn]
  rw[e];have hs:=h.size;have hkk:kk<dk.toList.length:=by rw[Fa,hs];omega
  rw[iY,List.take_succ,List.take_set_of_le<|BK _,WK hkk,Ge]
  rfl
 .rw[Array.getElem_setIfInBounds (by simpa using h2),if_neg A4];exact h.high j hj A4 _
theorem anS{P:CF}{A:Type}{τ:A->Ty}{H:HV}{c:A×A->AA Bool}(hn:∀a,(τ a).n=k)(ha:∀a,(τ a).agg=true){l:A3 A}{xs:A3 AV}{w:AR}{g:Nat}{cap:B8 AV}{F2:A3 Ty}(hxs:DT H (lT τ l) xs)
 (sub:∀r o,H r=some o->w.heap[r]? =some o)(gl:LP P H)(hB:H blk=none)(Qt:Ec H F2 cap.toList)
 (hf:∀a r,c a=some r-> @Ef DR.strict P g ([τ a.1,τ a.2]++F2) (.vs [Av r]))[Inhabited<|Fin l.length](m:Nat)(os:B8 Obj)(dk:B8 (Fin l.length))(x y:Fin l.length){b:Bool}(hb:c (l[x],l[y])=some b):Calls P g (#[.agg (chunk k xs x).toArray,.agg (chunk k xs y).toArray]++cap) (sortWorldK (λi:Fin l.length=>chunk k xs i) k w blk off m dk os) λe w'=>e= .returned (.bool b)/\∃q os',w'=Go.Sort.grow ((sortWorldK (λi:Fin l.length=>chunk k xs i) k w blk off m dk os).drewN q) os':=by
 let⟨_,hc⟩:=TV hn ha hxs;have hs:∀r o,H r=some o->(sortWorldK (λi:Fin l.length=>chunk k xs i) k w blk off m dk os).heap[r]? =some o:=λr o h=>by have h1:=sub r o h;rw[Xd (lt_of_heap h1) (λe=>by rw[e,hB] at h;cases h)];exact h1
 have hr:=Ef.run (D:=DR.strict) (hf (l[x],l[y]) _ hb) _ H ([Value.agg (chunk k xs x).toArray,Value.agg (chunk k xs y).toArray]++cap.toList) hs gl<|YP ⟨_,_,rfl,hc x x.2,_,_,rfl,hc y y.2,rfl⟩ Qt
 have ea:([Value.agg (chunk k xs x).toArray,Value.agg (chunk k xs y).toArray]++cap.toList).toArray= #[Value.agg (chunk k xs x).toArray,Value.agg (chunk k xs y).toArray]++cap:=AX;rw[ea] at hr;refine hr.mono ?_;rintro e w' ⟨v,rfl,hb,H',_,_,hv⟩;have hv:v= .bool b:=hv;subst hv;exact⟨rfl,aa8 hb⟩
theorem uI{cs:B8 AV}:(Builtin.zeroCells cs n).toList.length=n*cs.size:=by simp[Builtin.zeroCells]
theorem aea{cs:B8 AV}(h:∀v∈cs.toList,v.oneCell'=true):∀v∈(Builtin.zeroCells cs n).toList,v.oneCell'=true:=by
 intro v hv;unfold Builtin.zeroCells at hv;rw[Array.toList_map,BU] at hv;obtain⟨i,hi,rfl⟩:=hv;have hi:i<n*cs.size:=by simpa using hi
 have hp:0<cs.size:=(LJ cs.size).elim (λe=>by rw[e] at hi;simp at hi) id;have hm:=OL i hp;rw[K5 cs (i%cs.size) hm];exact h _ AX
theorem adw{P:CF}{W:AR}{S E ty:Am}{z:AV}{c s:Nat}{F:B8 AV}(hS:P.underlying S=some (.slice E))(hz:∀w,(zeroValue E).run P w= .ok z w)(h1:∀v∈z.cells.toList,v.oneCell'=true)(h:Holds id W blk off F)
 (hs:s+n*z.cells.size<=F.size)(hn:0<n):(Builtin.clear_ #[S] ty #[.slice (some ⟨blk,off+s,none⟩) n c]).run P W= .ok (.tuple #[]) (W.setCells blk (off+s) (Builtin.zeroCells z.cells n).toList):=by
 have Es:=stores_of_holds P h s (Builtin.zeroCells z.cells n).toList (by rw[uI];exact hs)<|aea h1
 obtain⟨n,rfl⟩:∃m,n=m+1:=⟨n-1,A4⟩;unfold Builtin.clear_;simp[E0,Et hS,hz,Es,Result.andThen]
theorem agC[Inhabited<|Fin n]{enc:Fin n->A3 AV}(hk:∀x,(enc x).length=k){i:Nat}(hi:i<dk.size)(x:Fin n):setMany (flatK enc k dk) (i*k) (enc x)=flatK enc k (dk.setIfInBounds i x):=by
 refine ext_get! AX λt ht=>?_
 have ht':t<dk.size*k:=by simpa using ht
 have k0:0<k:=(LJ k).elim (λh=>by subst h;simp at ht') id;rw[get_setMany _ _ _ t (by simpa using ht'),get_flatK _ _ _ t ht',get_flatK _ _ _ t (by simpa using ht'),hk];by_cases a:t/k=i
 .rw[if_pos<|(blk_iff k i t k0).2 a];have m:t-i*k=t%k:=by subst a;rw[Nat.mod_eq_sub_div_mul]
  rw[m,a,K5 (dk.setIfInBounds i x) i (by simpa using hi),Array.getElem_setIfInBounds_self]
 .rw[if_neg<|λh=>a<|(blk_iff k i t k0).1 h];have hd:t/k<dk.size:=Nat.div_lt_of_lt_mul (by rw[MJ];exact ht');rw[K5 (dk.setIfInBounds i x) (t/k) (by simpa using hd),K5 dk (t/k) hd,Array.getElem_setIfInBounds_ne _<|λe=>a e.symm]
theorem alm[Inhabited<|Fin n]{enc:Fin n->A3 AV}{w0 W:AR}(h:SWK enc k w0 blk off dk W)(hk:∀x,(enc x).length=k)(hblk:blk<w0.heap.size){i:Nat}(hi:i<dk.size)(x:Fin n):SWK enc k w0 blk off (dk.setIfInBounds i x) (W.setCells blk (off+i*k)<|enc x):=by
 obtain⟨m,os,rfl⟩:=h;refine⟨m,os,?_⟩;have hb:i*k+k<=dk.size*k:=by
  have:=LL k<|show i+1<=dk.size from hi
  rwa [Ka,Mq] at this
 unfold sortWorldK;rw[setCells_grow os blk _ _ _ (by show blk<(putRowK enc k _ blk off dk).heap.size;rw[size_putRowK];exact hblk)]
 congr 1
 unfold putRowK;rw[setCells_putRow _ _ _ _ _ _ (by rw[hk,size_flatK];exact hb),agC hk hi]
end
end Trn
namespace Ox
section
open Go.Shelf Go.Lib Go.Sort
set_option maxHeartbeats 4000000 in
set_option maxRecDepth 1000000 in
theorem ahc{P:Program}(F:P.funcs[220]? =some f220)(mixed:P.follows .mixedOrders=true)(t0:P.underlying 0=prog.underlying 0)(t3:P.underlying 3=some (.int .i64))(a3:∀w,(isAgg 3).run P w= .ok false w)(z3:∀w,(Go.sizeOf 3).run P w= .ok 1 w)(v3:∀w,(zeroValue 3).run P w= .ok (.int .i64 0) w)(t4:P.underlying 4=some .bool)(a4:∀w,(isAgg 4).run P w= .ok false w)(z4:∀w,(Go.sizeOf 4).run P w= .ok 1 w)(t116:P.underlying 116=some (.slice 102))(a116:∀w,(isAgg 116).run P w= .ok false w)(z116:∀w,(Go.sizeOf 116).run P w= .ok 1 w)
  {k:Nat}(a102:∀w,(isAgg 102).run P w= .ok true w)(z102:∀w,(Go.sizeOf 102).run P w= .ok k w)(zv:Value)(v102:∀w,(zeroValue 102).run P w= .ok zv w)(hzs:zv.cells.size=k)(hz1:∀v∈zv.cells.toList,v.oneCell'=true){n:Nat}[Inhabited<|Fin n](enc:Fin n->List Value)(hk:∀x,(enc x).length=k)(h1:∀x,∀v∈enc x,v.oneCell'=true)(g:Nat)(cb:Array Value)(kp:Nat->Bool)(k0:kp 0=true)(blk off cap:Nat)(w:World)
  (eg:∀args w,(callFunc g args).run P w= .ok (.enter g args) w)(hH:HoldsK enc k w blk off (Array.ofFn λi:Fin n=>i))(hblk:blk<w.heap.size)(hcap:n<=cap)(hsz:n<=9223372036854775807)
  (hcmp:∀(m:Nat) (os:Array Obj) (dk:Array (Fin n)) (j:Nat) (hj:j+1<n),Calls P g (#[.agg (enc ⟨j+1,hj⟩).toArray,.agg (enc ⟨j,Nat.lt_of_succ_lt hj⟩).toArray]++cb) (sortWorldK enc k w blk off m dk os) λe w'=>e= .returned (.bool<| !kp (j+1))/\∃q os',w'=grow ((sortWorldK enc k w blk off m dk os).drewN q) os'):Calls P 220 #[.slice (some ⟨blk,off,none⟩) n cap,.func (.func g) #[] cb] w λe w'=>∃kk dk zs W,e= .returned (.slice (some ⟨blk,off,none⟩) kk cap)/\kk=((List.range n).filter kp).length/\SWK enc k w blk off dk W/\dk.size=n/\(dk.toList.take kk).map (·.val)=(List.range n).filter kp/\w'=W.setCells blk (off+kk*k) zs/\zs.length<=(n-kk)*k:=by
 have kz:∀j,j<1->kp j=true:=λj hj=>by obtain rfl:j=0:=Trn.A4;exact k0
 have hpos:0<n:=Fin.pos default;have hd0:(Array.ofFn λi:Fin n=>i).size=n:=Array.size_ofFn;have S0:Aside (SWK enc k w blk off (Array.ofFn λi:Fin n=>i) w):=SWK.start hH;have RR:Aside (RowK enc k w blk off (Array.ofFn λi:Fin n=>i)):=⟨hk,h1,hH,hblk⟩;have CM:Aside (∀(m:Nat) (os:Array Obj) (dk:Array (Fin n)) (j:Nat) (hj:j+1<n),Calls P g (#[.agg (enc ⟨j+1,hj⟩).toArray,.agg (enc ⟨j,Nat.lt_of_succ_lt hj⟩).toArray]++cb) (sortWorldK enc k w blk off m dk os) λe w'=>e= .returned (.bool<| !kp (j+1))/\∃q os',w'=grow ((sortWorldK enc k w blk off m dk os).drewN q) os'):=hcmp;clear hH hk h1 hcmp;have all:∀W,SWK enc k w blk off (Array.ofFn λi:Fin n=>i) W->(∀j,j<n->kp j=true)->∃kk dk zs W',(Ending.returned<| .slice (some ⟨blk,off,none⟩) n cap)= .returned (.slice (some ⟨blk,off,none⟩) kk cap)/\kk=((List.range n).filter kp).length/\SWK enc k w blk off dk W'/\dk.size=n/\(dk.toList.take kk).map (·.val)=(List.range n).filter kp/\W=W'.setCells blk (off+kk*k) zs/\zs.length<=(n-kk)*k:=λW hW hall=>by
  have e:(List.range n).filter kp=List.range n:=List.filter_eq_self.2 λj hj=>hall j<|List.mem_range.1 hj
  refine⟨n,_,[],W,rfl,by rw[e];simp,hW,hd0,?_,rfl,Nat.zero_le _⟩;rw[e,Array.toList_ofFn];apply List.ext_getElem
  .simp
  .intro i h1 h2;simp
 have ALL:Aside (∀W,SWK enc k w blk off (Array.ofFn λi:Fin n=>i) W->(∀j,j<n->kp j=true)->∃kk dk zs W',(Ending.returned<| .slice (some ⟨blk,off,none⟩) n cap)= .returned (.slice (some ⟨blk,off,none⟩) kk cap)/\kk=((List.range n).filter kp).length/\SWK enc k w blk off dk W'/\dk.size=n/\(dk.toList.take kk).map (·.val)=(List.range n).filter kp/\W=W'.setCells blk (off+kk*k) zs/\zs.length<=(n-kk)*k):=all;clear all;by_cases h2:n<2
 .go_enter F,ntmps220
  go_wp2
  go_ret
  exact ALL.out w S0.out λj hj=>kz j Trn.A4
 .go_enter F,ntmps220
  go_wp2
  go_loopg [5] n (λgg s5 wr=>∃kx:Nat,1<=kx/\kx<=n/\n-kx<=gg/\s5= .int .i64 kx/\Aside (SWK enc k w blk off (Array.ofFn λi:Fin n=>i) wr)/\Aside (∀j,j<kx->kp j=true))
  case atStart=>exact⟨1,Nat.le_refl _,Trn.A4,Trn.A4,by first|rfl|go_num,S0,kz⟩
  case round=>
   clear S0;obtain⟨kx,hk1,hkn,hg,rfl,SW,HA⟩:=hrel;by_cases hlt:kx<n
   .obtain⟨j,rfl⟩:∃j,kx=j+1:=⟨kx-1,Trn.A4⟩;have jz:(j:Int)+1<(n:Int):=Trn.A4;have jz1:(j:Int)<(n:Int):=Trn.A4;have p0:(0:Int)<=(j:Int)+1:=Trn.A4;have e0:((j:Int)+1).toNat=j+1:=Trn.A4;have hwp:IntKind.i64.wrap (j:Int)=(j:Int):=by rw[IntKind.wrap_i64];omega
    obtain⟨cx,hcx⟩:∃c,(enc ⟨j+1,hlt⟩).toArray=c:=⟨_,rfl⟩;obtain⟨cy,hcy⟩:∃c,(enc ⟨j,Nat.lt_of_succ_lt hlt⟩).toArray=c:=⟨_,rfl⟩;have lj:∀n' os',Sem.run P (loadCellsFrom ⟨blk,off+(j+1)*k,none⟩ 0 k #[]) (grow (wr.drewN n') os')= .ok cx (grow (wr.drewN n') os'):=λn' os'=>by have:=SW.out.ld RR.out (by rw[hd0]) P (j+1) (by rw[hd0];exact hlt) n' os';rw[this,<-hcx,getElem!_pos _ _ (by rw[hd0];exact hlt)];simp
    have lp:∀n' os',Sem.run P (loadCellsFrom ⟨blk,off+j*k,none⟩ 0 k #[]) (grow (wr.drewN n') os')= .ok cy (grow (wr.drewN n') os'):=λn' os'=>by have:=SW.out.ld RR.out (by rw[hd0]) P j (by rw[hd0];omega) n' os';rw[this,<-hcy,getElem!_pos _ _ (by rw[hd0];omega)];simp
    have hcg:∀n' os',Calls P g (#[.agg cx,.agg cy]++cb) (grow (wr.drewN n') os') λe w'=>e= .returned (.bool<| !kp (j+1))/\∃q os'',w'=grow ((grow (wr.drewN n') os').drewN q) os'':=λn' os'=>by let⟨m,os0,hw⟩:=SW.out.grown n' os';rw[hw,<-hcx,<-hcy];exact CM.out m os0 _ j hlt
    cases hkp:kp (j+1) with
    |true=>
     rw[hkp,Bool.not_true] at hcg
     go_wp2_with fail
     go_quiet_grown (first|(go_at_fn g;refine Calls.grown_of<|hcg _ _))
     go_wp2
     go_roundg (n-(j+1+1))
     case measure=>omega
     case rel=>exact⟨j+1+1,Trn.A4,Trn.A4,Nat.le_refl _,by first|rfl|go_num,SW.out.grown nq osq,λi hi=>by
      rcases Nat.lt_or_ge i (j+1) with h|h
      .exact HA.out i h
      .have:i=j+1:=Trn.A4;rw[this];exact hkp⟩
    |false=>
     rw[hkp,Bool.not_false] at hcg
     go_wp2_with fail
     go_quiet_grown (first|(go_at_fn g;refine Calls.grown_of<|hcg _ _))
     have SW1:Aside (SWK enc k w blk off (Array.ofFn λi:Fin n=>i)<|grow (wr.drewN nq) osq):=SW.out.grown nq osq;clear lj lp hcg
     generalize grow (wr.drewN nq) osq=wq at SW1⊢
     go_wp2
     go_loopg [5,7] n (λgg s5 s7 wr=>∃(kk k2:Nat) (dk:Array (Fin n)),s5= .int .i64 kk/\s7= .int .i64 k2/\1<=k2/\j+1+k2<=n/\n-(j+1+k2)<=gg/\Aside (SWK enc k w blk off dk wr)/\Aside (Trn.O1 n kp (j+1+k2) kk dk)/\kk<j+1+k2)
     case atStart=>exact⟨j+1,1,_,by first|rfl|go_num,rfl,Nat.le_refl _,Trn.A4,Trn.A4,SW1,Trn.O1.start hlt HA.out hkp,Trn.A4⟩
     case round=>
      clear SW1;obtain⟨kk,k2,dk,rfl,rfl,h21,hle,hg2,SW2,CI,hkk⟩:=hrel;have hdk:dk.size=n:=CI.out.size;by_cases hlt2:j+1+k2<n
      .obtain⟨i,rfl⟩:∃i,k2=i+1:=⟨k2-1,Trn.A4⟩;have iz:(i:Int)+1<((n-(j+1):Nat):Int):=Trn.A4;have iz1:(i:Int)<((n-(j+1):Nat):Int):=Trn.A4;have q0:(0:Int)<=(i:Int)+1:=Trn.A4;have f0:((i:Int)+1).toNat=i+1:=Trn.A4;have hwq:IntKind.i64.wrap (i:Int)=(i:Int):=by rw[IntKind.wrap_i64];omega
       have ea:off+(j+1)*k+(i+1)*k=off+(j+1+(i+1))*k:=by rw[Nat.add_assoc,<-Nat.add_mul]
       have eb:off+(j+1)*k+i*k=off+(j+1+i)*k:=by rw[Nat.add_assoc,<-Nat.add_mul]
       have ga:dk[j+1+(i+1)]! =⟨j+1+(i+1),hlt2⟩:=by rw[getElem!_pos dk _ Trn.A4];exact CI.out.high _ hlt2 Trn.A4 _
       have gb:dk[j+1+i]! =⟨j+1+i,Nat.lt_of_succ_lt hlt2⟩:=by rw[getElem!_pos dk _ Trn.A4];exact CI.out.high (j+1+i) (Nat.lt_of_succ_lt hlt2) (show j+1+(i+1)-1<=j+1+i by omega) _
       obtain⟨cu,hcu⟩:∃c,enc ⟨j+1+(i+1),hlt2⟩=c:=⟨_,rfl⟩;obtain⟨cv,hcv⟩:∃c,enc ⟨j+1+i,Nat.lt_of_succ_lt hlt2⟩=c:=⟨_,rfl⟩;have lu:∀n' os',Sem.run P (loadCellsFrom ⟨blk,off+(j+1)*k+(i+1)*k,none⟩ 0 k #[]) (grow (wr.drewN n') os')= .ok cu.toArray (grow (wr.drewN n') os'):=λn' os'=>by have:=SW2.out.ld RR.out (by rw[hd0];exact hdk) P (j+1+(i+1)) Trn.A4 n' os';rw[ea,this,ga,hcu]
       have lv:∀n' os',Sem.run P (loadCellsFrom ⟨blk,off+(j+1)*k+i*k,none⟩ 0 k #[]) (grow (wr.drewN n') os')= .ok cv.toArray (grow (wr.drewN n') os'):=λn' os'=>by have:=SW2.out.ld RR.out (by rw[hd0];exact hdk) P (j+1+i) Trn.A4 n' os';rw[eb,this,gb,hcv]
       have hcg:∀n' os',Calls P g (#[.agg cu.toArray,.agg cv.toArray]++cb) (grow (wr.drewN n') os') λe w'=>e= .returned (.bool<| !kp (j+1+(i+1)))/\∃q os'',w'=grow ((grow (wr.drewN n') os').drewN q) os'':=λn' os'=>by let⟨m,os0,hw⟩:=SW2.out.grown n' os';rw[hw,<-hcu,<-hcv];exact CM.out m os0 dk (j+1+i) hlt2
       have GU:Aside (dk[j+1+(i+1)]! =⟨j+1+(i+1),hlt2⟩/\enc ⟨j+1+(i+1),hlt2⟩=cu):=⟨ga,hcu⟩;clear ea eb ga gb hcu hcv;cases hkq:kp (j+1+(i+1)) with
       |true=>
        rw[hkq,Bool.not_true] at hcg
        go_wp2_with fail
        go_quiet_grown (first|(go_at_fn g;refine Calls.grown_of<|hcg _ _))
        have SW3:Aside (SWK enc k w blk off dk<|grow (wr.drewN nq) osq):=SW2.out.grown nq osq;have l3:=lu nq osq;clear lu lv hcg SW2
        generalize grow (wr.drewN nq) osq=wq at SW3 l3⊢
        have n3:cu.length=k:=by rw[<-GU.out.2];exact RR.out.hk _
        have s3:Sem.run P (storeCells ⟨blk,off+kk*k,none⟩ cu 0) wq= .ok () (wq.setCells blk (off+kk*k) cu):=by rw[<-GU.out.2];exact stores_of_holds P (SW3.out.holds RR.out.hblk RR.out.hH (by rw[hdk,hd0])) (kk*k) _ (by rw[RR.out.hk,size_flatK];exact rowK_bnd dk k kk Trn.A4)<|RR.out.h1 _
        have kz1:(kk:Int)<(n:Int):=Trn.A4
        go_wp2
        go_roundg (n-(j+1+(i+1+1)))
        case measure=>omega
        case rel=>exact⟨kk+1,i+1+1,dk.setIfInBounds kk ⟨j+1+(i+1),hlt2⟩,by first|rfl|go_num,by first|rfl|go_num,Trn.A4,Trn.A4,Nat.le_refl _,by show SWK _ _ _ _ _ _ _;rw[<-GU.out.2];exact Trn.alm SW3.out RR.out.hk RR.out.hblk Trn.A4 _,CI.out.E3 hlt2 hkq,Trn.A4⟩
       |false=>
        rw[hkq,Bool.not_false] at hcg
        go_wp2_with fail
        go_quiet_grown (first|(go_at_fn g;refine Calls.grown_of<|hcg _ _))
        have SW3:Aside (SWK enc k w blk off dk<|grow (wr.drewN nq) osq):=SW2.out.grown nq osq;clear lu lv hcg SW2
        generalize grow (wr.drewN nq) osq=wq at SW3⊢
        go_wp2
        go_roundg (n-(j+1+(i+1+1)))
        case measure=>omega
        case rel=>exact⟨kk,i+1+1,dk,rfl,by first|rfl|go_num,Trn.A4,Trn.A4,Nat.le_refl _,SW3,CI.out.skip hkq,Trn.A4⟩
      .have hend:j+1+k2=n:=Trn.A4;have hcl:∀ty,(Builtin.clear_ #[116] ty #[.slice (some ⟨blk,off+kk*k,none⟩) (n-kk)<|cap-kk]).run P wr= .ok (.tuple #[]) (wr.setCells blk (off+kk*k) (Builtin.zeroCells zv.cells<|n-kk).toList):=λty=>Trn.adw t116 v102 hz1 (SW2.out.holds RR.out.hblk RR.out.hH (by rw[hdk,hd0])) (by rw[hzs,size_flatK,hdk,<-Nat.add_mul];exact Nat.mul_le_mul_right k Trn.A4) Trn.A4
       have kz1:(kk:Int)<=(n:Int):=Trn.A4;have hzl:(Builtin.zeroCells zv.cells<|n-kk).toList.length<=(n-kk)*k:=by rw[Trn.uI,hzs];exact Nat.le_refl _
       generalize (Builtin.zeroCells zv.cells<|n-kk).toList=zl at hcl hzl
       clear v102 hzs hz1
       go_wp2
       go_ret
       have C:=CI.out;rw[hend] at C;exact⟨kk,dk,zl,wr,rfl,C.len<|Nat.le_refl _,SW2.out,hdk,C.low,rfl,hzl⟩
   .have:kx=n:=Trn.A4;subst this
    go_wp2
    go_ret
    exact ALL.out wr SW.out HA.out
set_option maxHeartbeats 4000000 in
set_option maxRecDepth 1000000 in
theorem ahe(p:Option Addr)(m:Nat)(hm:m<2)(cap:Nat)(fv:Value)(w:World):Calls prog 220 #[.slice p m cap,fv] w λe w'=>e= .returned (.slice p m cap)/\w'=w:=by
 go_enter func220,ntmps220
 go_wp2
 go_ret
 exact⟨rfl,rfl⟩
end
end Ox
namespace Trn
section
open Go.Shelf Go.Sort
variable[D:DR]
variable{α:Type}{blk:Nat}
def flags{α:Type}(l:A3 α)(bs:A3 Bool):A3 α:=((l.zip bs).filter (·.2)).map (·.1)
theorem wS{α:Type}{e:α->α->AA Bool}:∀{l:A3 α} {x:α} {r:A3 α},Wq e x l=some r->∃bs:A3 Bool,bs.length=l.length/\(∀j (hj:j<l.length) (h2:j<(x::l).length) (h3:j<bs.length),e l[j] (x::l)[j]=some (!bs[j]))/\r=flags l bs
 |[],x,r,h=>by cases h;exact⟨[],rfl,λj hj=>absurd hj<|Nat.not_lt_zero _,rfl⟩
 |y::l,x,r,h=>by
  let⟨b,hb,h⟩:=Ng h;let⟨r',hr,h⟩:=Ng h;let⟨bs,h1,h2,h3⟩:=wS hr;have h:=E8 h;refine⟨(!b)::bs,by simp[h1],λj hj hj2 hj3=>?_,?_⟩
  .grind
  .rw[<-h,h3];cases b<;>simp[flags]
theorem vd{α:Type}:∀{l:A3 α} {bs:A3 Bool},bs.length=l.length->((List.range l.length).filter λj=>bs.getD j true).map (λj=>l[j]?)=(flags l bs).map some
 |[],[],_=>rfl|[],_::_,h=>by simp at h|_::_,[],h=>by simp at h
 |x::l,b::bs,h=>by
  have ih:=vd (l:=l) (bs:=bs) (by simpa using h);rw[E6,List.range_succ_eq_map,ZQ,List.filter_map];have e:(λj=>(b::bs).getD j true)∘Nat.succ=λj=>bs.getD j true:=by funext j;simp
  rw[e];have e2:(((List.range l.length).filter λj=>bs.getD j true).map Nat.succ).map (λj=>(x::l)[j]?)=(flags l bs).map some:=by rw[<-ih,Tu];apply py;intro j _;simp
  cases b
  .simpa[flags] using e2
  .simpa[flags] using e2
theorem af2{l r:A3 α}{c:α×α->AA Bool}(h:YZ l c=some r):∃kp:Nat->Bool,kp 0=true/\(∀j (hj:j+1<l.length),c (l[j+1],l[j])=some (!kp (j+1)))/\((List.range l.length).filter kp).map (λj=>l[j]?)=r.map some:=by
 cases l with
 |nil=>cases h;exact⟨λ_=>true,rfl,λj hj=>absurd hj<|Nat.not_lt_zero _,rfl⟩
 |cons x l=>
  let⟨r',hr,h⟩:=Ng h;have h:=E8 h;let⟨bs,h1,h2,h3⟩:=wS hr;refine⟨λj=>(true::bs).getD j true,rfl,λj hj=>?_,?_⟩
  .grind
  .rw[vd (l:=x::l) (bs:=true::bs) (by simp[h1]),<-h,h3];simp[flags]
theorem adV{W:AR}{o:Nat}{cur:B8 AV}{E:Am}{fr:Nat×Nat}{v:AV}(h:W.heap[blk]? =some (.cells cur E fr)):(W.setCell ⟨blk,o,none⟩ v).heap[blk]? =some (.cells (cur.setIfInBounds o v) E fr):=by simp[World.setCell,U9,h]
theorem tK{blk:Nat}{E:Am}{fr:Nat×Nat}:∀{vs:A3 AV} {W:AR} {o:Nat} {cur:B8 AV},W.heap[blk]? =some (.cells cur E fr)->(W.setCells blk o vs).heap[blk]? =some (.cells (setMany cur o vs) E fr)
 |[],_,_,_,h=>h|v::vs,W,o,cur,h=>tK (vs:=vs)<|adV h
theorem vD{blk:Nat}:∀{vs:A3 AV} {W:AR} {o:Nat},Ed W (W.setCells blk o vs) (some blk)
 |[],W,o=>⟨⟨rfl,rfl,rfl,BK _,λ_ _ _=>rfl⟩,BK _⟩
 |v::vs,W,o=>by have h:=vD (blk:=blk) (vs:=vs) (W:=W.setCell ⟨blk,o,none⟩ v) (o:=o+1);refine⟨⟨h.os,h.tape,h.output,Ct (by simp[World.setCell]) h.size,λk hk hne=>?_⟩,h.drawn⟩;have h1:=h.block k (by simpa[World.setCell] using hk) hne;show(World.setCells _ blk (o+1) vs).heap[k]? =_;rw[h1];exact Below.heap_setCell _ _ _ _ (λe=>hne (by rw[e]))
theorem uw{m:Nat}:∀{vs:A3 AV} {F:B8 AV} {s:Nat},m<=s->(setMany F s vs).toList.take m=F.toList.take m
 |[],_,_,_=>rfl
 |v::vs,F,s,h=>by rw[setMany,uw (vs:=vs) A4,iY,List.take_set_of_le h]
theorem aeU[Inhabited α]{enc:α->A3 AV}{k:Nat}{w:AR}{m:Nat}{dk:B8 α}{os:B8 Obj}:Ed w (sortWorldK enc k w blk 0 m dk os) (some blk):=by refine⟨⟨rfl,rfl,rfl,kq,λi hi hne=>Xd hi (λe=>hne (by rw[e]))⟩,?_⟩;refine Gv.of ?_;show w.drawn<=(sortWorldK _ k w blk 0 m dk os).drawn;unfold sortWorldK Go.Sort.grow Go.Sort.putRowK Go.Sort.putRow Go.Sort.mapBlock Go.Sort.ahead;exact U3 _ _
theorem Ed.trans{w w1 w2:AR}{row:AA Nat}(h:Ed w w1 row)(k:Ed w1 w2 row):Ed w w2 row:=⟨⟨k.os.trans h.os,k.tape.trans h.tape,k.output.trans h.output,Ct h.size k.size,λi hi hne=>(k.block i (Jj hi h.size) hne).trans<|h.block i hi hne⟩,Ct h.drawn k.drawn⟩
end
section
open Go.Shelf Go.Sort
variable[D:DR]
variable{P:Program}{A:Type}{τ:A->Ty}{k:Nat}{c:A×A->Option Bool}{f E:Nat}
theorem afZ(hc:Gd P f=true)(hn:∀a,(τ a).n=k)(ha:∀a,(τ a).agg=true)
  (qx:∀(p:AA Addr) (m:Nat) (hm:m<2) (cap:Nat) (fv:AV) (w:AR),Calls P f #[.slice p m cap,fv] w λe w'=>e= .returned (.slice p m cap)/\w'=w)
  (aqU:∀{n:Nat} [Inhabited<|Fin n] (enc:Fin n->A3 AV) (hk:∀x,(enc x).length=k) (h1:∀x,∀v∈enc x,v.oneCell'=true) (g:Nat) (cb:B8 AV) (kp:Nat->Bool) (k0:kp 0=true) (blk off cap:Nat) (w:AR)
   (eg:∀args w,(callFunc g args).run P w= .ok (.enter g args) w) (hH:HoldsK enc k w blk off (Array.ofFn λi:Fin n=>i)) (hblk:blk<w.heap.size) (hcap:n<=cap) (hsz:n<=9223372036854775807)
   (hcmp:∀(m:Nat) (os:B8 Obj) (dk:B8 (Fin n)) (j:Nat) (hj:j+1<n),Calls P g (#[.agg (enc ⟨j+1,hj⟩).toArray,.agg (enc ⟨j,Nat.lt_of_succ_lt hj⟩).toArray]++cb) (sortWorldK enc k w blk off m dk os) λe w'=>e= .returned (.bool<| !kp (j+1))/\∃q os',w'=Go.Sort.grow ((sortWorldK enc k w blk off m dk os).drewN q) os'),Calls P f #[.slice (some ⟨blk,off,none⟩) n cap,.func (.func g) #[] cb] w λe w'=>∃kk dk zs W,e= .returned (.slice (some ⟨blk,off,none⟩) kk cap)/\kk=((List.range n).filter kp).length/\SWK enc k w blk off dk W/\dk.size=n/\(dk.toList.take kk).map (·.val)=(List.range n).filter kp/\w'=W.setCells blk (off+kk*k) zs/\zs.length<=(n-kk)*k)
  {l r:A3 A}(hm:YZ l c=some r):j4 P f E k (lT τ l) [L1 P (λx:A×A=>[τ x.1,τ x.2]) (λx:Bool=>[Av x]) c] (lT τ r):=by
 let⟨kp,hk0,hkp,hkr⟩:=af2 hm;refine⟨hc,λw H v xs vs sub gl hown Aw hH hvs=>?_⟩;obtain⟨fv,rfl,hfv⟩:=PT hvs;obtain⟨g,cap,F2,rfl,Qt,hf⟩:=hfv;have hlen:(lT τ l).length=l.length:=Be ..;rw[hlen] at hown;by_cases hl0:l.length<2
 .have hr:r=l:=by match l,hl0 with|[],_=>cases hm;rfl|[x],_=>cases hm;rfl|a::b::t,h=>simp[E6] at h;omega
  subst hr;obtain⟨p,Eh,rfl⟩:∃p Eh,v= .slice p r.length Eh:=by
   rcases hown.2 with⟨hv,h0⟩|⟨g,cap,cur,hv,_⟩
   .grind
   .grind
  refine(qx p r.length hl0 Eh _ w).mono ?_;rintro e w' ⟨rfl,rfl⟩;exact⟨_,rfl,⟨⟨rfl,rfl,rfl,BK _,λ_ _ _=>rfl⟩,BK _⟩,xs,by rw[hlen];exact hown,Aw,λb hb=>hb⟩
 .have hpos:0<l.length:=A4;obtain⟨blk,Eh,cur,rfl,hblk,hnc,hcm,hcs,htake⟩:∃blk Eh cur,v= .slice (some ⟨blk,0,.none⟩) l.length Eh/\w.heap[blk]? =some (.cells cur E (0,0))/\l.length<=Eh/\Eh<=maxLen/\cur.size=Eh*k/\cur.toList.take (l.length*k)=xs:=by
   rcases hown.2 with⟨_,hz⟩|⟨g,cap,cur,hv,_,r⟩
   .omega
   .grind
  haveI:Inhabited (Fin l.length):=⟨⟨0,hpos⟩⟩
  let⟨GN,KU⟩:=TV hn ha Aw;have hB:H blk= .none:=hH blk rfl;have Ug:∀j (hj:j+1<l.length),Gd P g=true:=λj hj=>Ef.can (D:=DR.strict)<|hf _ _<|hkp j hj
  have main:=aqU (λi:Fin l.length=>chunk k xs i) (λi=>TZ GN i.2) (λi u hu=>Rp Aw u<|U8<|Qe hu) g cap kp hk0 blk 0 Eh w
   (λargs w=>P6 (Ug 0 A4) args w) (vC GN hblk htake) (lt_of_heap hblk) hnc (Ct hnc hcm)
   (λm os dk j hj=>anS (off:=0) hn ha Aw sub gl hB Qt hf m os dk ⟨j+1,hj⟩ ⟨j,Nat.lt_of_succ_lt hj⟩<|hkp j hj)
  refine main.mono ?_;rintro e w' ⟨kk,dk,zs,W,rfl,hkk,⟨m,os,rfl⟩,hdk,X5,rfl,hzs⟩;have hlr:(dk.toList.take kk).map (λi=>l[i])=r:=by
   have h1:((dk.toList.take kk).map λi=>l[i]).map some=r.map some:=by rw[<-hkr,<-X5,Tu,Tu];apply py;intro i _;simp
   exact(List.map_inj_right<|λa b h=>E8 h).1 h1
  have Jy:kk<=l.length:=AL;have hrk:r.length=kk:=AL;have Kw:(flatK (λi:Fin l.length=>chunk k xs i) k dk).size=l.length*k:=by rw[size_flatK,hdk]
  have hle:l.length*k<=cur.size:=AL;have hkm:kk*k<=l.length*k:=LL k Jy;have Hd:=tK (vs:=zs) (o:=0+kk*k)<|tC (enc:=λi:Fin l.length=>chunk k xs i) (k:=k) (m:=m) (dk:=dk) (os:=os) hblk
  have Nz:=ug (α:=Fin l.length) (d:=flatK (λi:Fin l.length=>chunk k xs i) k dk) (cur:=cur) (by rw[Kw];exact hle);rw[Kw] at Nz;refine⟨_,rfl,aeU.trans vD,(flatK (λi:Fin l.length=>chunk k xs i) k dk).toList.take<|kk*k,?_,?_,λb hb=>hb⟩
  .rw[Be,hrk];refine⟨by rw[E1,Fa,Kw];exact EU hkm,.inr ⟨blk,Eh,_,rfl,FQ _,Hd,A4,hcm,?_,?_⟩⟩
   .rw[size_setMany,<-hcs];simp[Go.Sort.putCells]
   .rw[uw A4,<-Nz,ON,EU hkm]
  .refine dW (by rw[E1,Fa,Kw,hrk];exact EU hkm) λi hi=>?_
   have hi2:i<dk.size:=A4;have ec:chunk k ((flatK (λi:Fin l.length=>chunk k xs i) k dk).toList.take<|kk*k) i=chunk k (flatK (λi:Fin l.length=>chunk k xs i) k dk).toList i:=by
    have hb:i*k+k<=kk*k:=by have:=LL k (show i+1<=kk by omega);rwa [Ka,Mq] at this
    unfold chunk;rw[MP,ON,EU (by rw[Nat.le_sub_iff_add_le A4];omega)]
   rw[ec,nM (λi=>TZ GN i.2) hi2,K5 dk i hi2];have e:r[i]=l[dk[i]]:=AL;rw[e];exact KU _ dk[i].2
end
section
variable{l:A3 Int}{x:Int}{n:Nat}{y q:Int}{s:Nat}{r:Int×A3 Int}{ρ:Type}{R:ρ->Prop}{a:A3 Int}{α:Type}{b:A3 Int}{y1 y0 N d z:Int}{m k:Nat}{K:α->AA ρ}{X Y u0 v0 v1:Int}{w:A3 Int}{P UL VL U2:Int}
def Yd{ρ:Type}(R:ρ->Prop)(o:AA ρ):Prop:=∃r,o=some r/\R r
def AU{x:ρ}(h:R x):Yd R (some x):=⟨x,rfl,h⟩
def A6{e:AA α}{x:α}(h:e=some x)(k:Yd R (K x)):Yd R (Trn.bd e K):=by subst h;exact k
def Fz{o:AA α}{r:α}(h:Yd (λx=>x=r) o):o=some r:=by obtain⟨x,e,rfl⟩:=h;exact e
theorem Ap{S:α->Prop}{e:AA α}(h:Yd S e)(k:∀x,S x->Yd R (K x)):Yd R (Trn.bd e K):=by grind [Yd,bd]
theorem Ac{b:Bool}{x y:AA ρ}(hx:b=true->Yd R x)(hy:b=false->Yd R y):Yd R (cond b x y):=by grind
def Yd.gC{ρ:Type}{R:ρ->Prop}{b:Bool}{x:AA ρ}(hb:b=true)(hx:Yd R x):Yd R (Trn.gC b x):=by subst hb;exact hx
def GJ{g:Bool}{d:α}{e:AA α}(h1:g=true->∃x,e=some x/\Yd R (K x))(h2:g=false->Yd R (K d)):Yd R (Trn.B1 g d e K):=by
 cases g
 .exact h2 rfl
 .obtain⟨x,rfl,h⟩:=h1 rfl;exact h
def DI(I:α->Prop){E:(α->AA ρ)->AA ρ}(hK:∀s,I s->Yd R (K s))(hE:∀k,(∀s,I s->Yd R (k s))->Yd R (E k)):Yd R (Trn.jn K E):=hE K hK
def EO{σ ρ:Type}{R:ρ->Prop}{B:(σ->AA ρ)->σ->AA ρ}(I:σ->Prop)(μ:σ->Nat)(h:∀next s,I s->(∀s',I s'->μ s'<μ s->Yd R (next s'))->Yd R (B next s)):∀(F:Nat) (s:σ),I s->μ s<F->Yd R (Trn.lp F B s)
 |0,s,_,h=>by omega|F+1,s,hi,hm=>h _ s hi λs' hi' KS=>EO I μ h F s' hi' A4
theorem Yd.imp{S:ρ->Prop}{o:AA ρ}(h:Yd R o)(k:∀r,R r->S r):Yd S o:=by grind [Yd]
def EW{n:Int}(h:Cb n):AH n=some n:=by
 unfold Cb at h;unfold AH Hb;rw[B4 h.1,B4 h.2]
 rfl
def B9{n:Int}(h: -9223372036854775808<=n/\n<=9223372036854775807:=by omega):AH n=some n:=EW h
theorem UE{i:Int}(h0:0<=i)(h1:i<l.length):AB l i=some (l.getD i.toNat 0):=by grind [AB]
def Bh(h:n<l.length):AB l (n:Int)=some (l.getD n 0):=by show l[n]? =_;simp[h]
theorem Pt{b:Nat}{n:Int}{z:α}(h0:0<=n)(h1:b*n<=140737488355328)(hb:1<=b):mk_ b n z=some (List.replicate n.toNat z):=by induction b<;>grind [mk_]
theorem E5{l:A3 α}{lo hi:Int}(h0:0<=lo)(h1:lo<=hi)(h2:hi<=l.length):C6 l lo hi=some ((l.take hi.toNat).drop lo.toNat):=by grind [C6]
theorem anw{k:IntKind}(h:0<=y):MZ k x y=some (x.fdiv<|2^(min y.toNat k.bits)):=by grind [MZ]
theorem anx{k:IntKind}(h:0<=y):Ma k x y=some (k.wrap<|x*2^(min y.toNat k.bits)):=by grind [Ma]
abbrev BB:Int:=18446744073709551616
def Az(n:Nat):Int:=BB^n
def Yk:Az 0=1:=rfl
def Je(n:Nat):Az (n+1)=BB*Az n:=by unfold Az;rw[Int.pow_succ,FB]
def Lk:∀n,0<Az n
 |0=>by rw[Yk];omega|n+1=>by rw[Je];have:=Lk n;unfold BB;omega
theorem gJ(m n:Nat):Az (m+n)=Az m*Az n:=by grind [Az]
def NM(x:Int)(l:A3 Int):AN (x::l)=x+BB*AN l:=rfl
def VP:∀(l m:A3 Int),AN (l++m)=AN l+Az l.length*AN m
 |[],m=>by simp[AN,Yk]
 |x::l,m=>by rw[SA,NM,NM,VP l m,E6,Je,DU,FG];omega
def Z7:okW []:=by intro x h;cases h
theorem PJ:okW (x::l)↔(0<=x/\x<BB)/\okW l:=by simp_all [okW,BB]
theorem wE{m:A3 Int}:okW (l++m)↔okW l/\okW m:=by grind [okW]
theorem ME(h:okW l)(n:Nat):okW (l.take n):=by grind [okW]
theorem Ro(h:okW l)(n:Nat):okW (l.drop n):=by grind [okW]
theorem Fk(h:okW l)(n:Nat):0<=l.getD n 0/\l.getD n 0<BB:=by
 by_cases hn:n<l.length
 .have:l.getD n 0=l[n]:=by simp[JH,hn]
  rw[this];exact h _<|Lv hn
 .grind
theorem VD(n:Nat):okW (List.replicate n 0):=by grind [okW]
theorem KZ(h:okW l)(n:Nat)(hx:0<=x/\x<BB):okW (l.set n x):=by(simp_all [okW,BB]<;>grind)
def lC:∀n,AN (List.replicate n 0)=0
 |0=>rfl|n+1=>by rw[List.replicate_succ,NM,lC n];omega
def Gc:∀{l:A3 Int},okW l->0<=AN l/\AN l<Az l.length
 |[],_=>by simp[AN,Yk]
 |x::l,h=>by rw[PJ] at h;let⟨h1,h2⟩:=Gc h.2;rw[NM,E6,Je];have:=h.1;unfold BB at*;omega
theorem cd(h:n<l.length):l.take (n+1)=l.take n++[l.getD n 0]:=by simp_all
def Xf(h:n<l.length):AN (l.take<|n+1)=AN (l.take n)+Az n*l.getD n 0:=by rw[cd h,VP,E1,EU A4];simp[AN]
def RZ(l:A3 Int)(n:Nat)(h:n<=l.length):AN l=AN (l.take n)+Az n*AN (l.drop n):=by
 conv=>lhs;rw[<-Oc n l]
 rw[VP,E1,EU h]
def TW:∀{l:A3 Int},okW l->l≠[]->l.getLast?≠some 0->Az (l.length-1)<=AN l
 |[],_,h,_=>absurd rfl h
 |[x],h,_,hl=>by
  rw[PJ] at h;have:x≠0:=λe=>hl (by rw[e];rfl)
  simp[AN,Yk];omega
 |x::y::l,h,_,hl=>by rw[PJ] at h;have:=TW (l:=y::l) h.2 AX (by simpa using hl);rw[NM,show(x::y::l).length-1=(y::l).length-1+1 from by simp,Je];have:=h.1;unfold BB at*;omega
def aiQ(h:n<l.length)(x:Int):l.set n x=l.take n++x::l.drop (n+1):=by rw[List.set_eq_take_append_cons_drop,if_pos h]
def HB(h:n<=m)(x:Int):(l.set m x).take n=l.take n:=by rw[List.take_set_of_le h]
theorem getD_set_ne(h:n≠m)(x:Int):(l.set m x).getD n 0=l.getD n 0:=by grind
theorem J9(h:n<l.length)(x:Int):(l.set n x).getD n 0=x:=by grind
def Norm(w:A3 Int):Prop:=okW w/\w.getLast?≠some 0
def Norm.nil:Norm []:=⟨Z7,AX⟩
def Norm.len(h:Norm w)(hv:AN w<Az n):w.length<=n:=by
 by_cases h0:w=[]
 .subst h0;simp
 .have h1:=TW h.1 h0 h.2;rcases Hj n w.length with h2|h2
  .have:Az n<=Az (w.length-1):=by obtain⟨k,hk⟩:∃k,w.length-1=n+k:=⟨w.length-1-n,A4⟩;rw[hk,gJ];have a:=Lk n;have b:=Lk k;have:Az n*1<=Az n*Az k:=Eu A4 A4;omega
   omega
  .exact h2
theorem EA{a b:Bool}(h:(a&&b)=true):a=true/\b=true:=by grind
def Rq(ha:okW a)(hl:a.length<4611686018427387904):Yd (λw=>Norm w/\AN w=AN a/\w.length<=a.length) (OC a):=by
 unfold OC;refine EO (λs:Int=>0<=s/\s<=a.length/\AN (a.take s.toNat)=AN a) (λs:Int=>s.toNat) ?_ _ _ ⟨A4,A4,AX⟩ DD;rintro next s ⟨h0,h1,h2⟩ hn
 refine GJ (λhg=>?_)<|λhg=>?_
 .have hs:0<s:=Ar hg;refine⟨s-1,EW ⟨A4,A4⟩,GJ (λ_=>⟨a.getD (s-1).toNat 0,UE A4 A4,Ac (λhc=>?_)<|λhc=>?_⟩) (λh=>by rw[hg] at h;cases h)⟩
  .let⟨_,hz⟩:=EA hc;have hz:=Ar hz;refine A6 B9<|hn _ ⟨A4,A4,?_⟩ A4
   have e:s.toNat=(s-1).toNat+1:=A4;rw[e,Xf A4,hz,Tt,Vy] at h2;exact h2
  .refine A6 (E5 A4 h0 h1) (AU ⟨⟨ME ha _,?_⟩,h2,DD⟩);rw[B4 hs,Lq] at hc;have hz:=Bg hc;have e:s.toNat=(s-1).toNat+1:=A4;show(a.take s.toNat).getLast?≠some 0;rw[e,cd A4];simpa using hz
 .have hs: ¬0<s:=Bg hg;have hs:s=0:=A4;subst hs;refine GJ (λh=>by rw[hg] at h;cases h) (λ_=>Ac (λhc=>by simp at hc) (λ_=>A6 (E5 A4 A4 h1) (AU ⟨by simpa using Norm.nil,by simpa using h2,AX⟩)))
theorem afP(ha:okW a)(hb:okW b)(hla:a.length<4398046511104)(hlb:b.length<4398046511104):Yd (λw=>Norm w/\AN w=AN a+AN b) (Xm a b):=by
 unfold Xm;refine DI (λs:A3 Int×A3 Int=>okW s.1/\okW s.2/\s.2.length<=s.1.length/\s.1.length<4398046511104/\AN s.1+AN s.2=AN a+AN b) ?_ λk hk=>Ac (λhc=>?_)<|λhc=>?_
 rotate_left
 .grind
 .grind
 rintro⟨x,y⟩ ⟨hx,hy,hl,hlx,hv⟩;simp only at hx hy hl hlx hv⊢;rw[<-hv];refine A6 B9<|A6 (Pt A4 A4 A4) ?_
 refine EO (λs:A3 Int×Int×Int=>okW s.1/\s.1.length=x.length+1/\(s.2.1=0\/s.2.1=1)/\0<=s.2.2/\s.2.2<=x.length/\AN (s.1.take s.2.2.toNat)+Az s.2.2.toNat*s.2.1=AN (x.take s.2.2.toNat)+AN (y.take s.2.2.toNat))
  (λs:A3 Int×Int×Int=>x.length-s.2.2.toNat) ?_ _ _ ⟨VD _,by simp only[Nd];omega,.inl rfl,by dsimp;omega,by dsimp;omega,by simp[AN]⟩ (by dsimp;omega)
 rintro next ⟨o,c,i⟩ ⟨h1,h2,h3,h4,h5,h6⟩ hn
 simp only at h1 h2 h3 h4 h5 h6 hn⊢;obtain⟨n,rfl⟩:=Ez h4;simp only[Cg,MR] at*;refine Ac (λhc=>?_)<|λhc=>?_
 .have hc:=Ar hc;refine DI (λv=>v=y.getD n 0) ?_ λk hk=>Ac (λhd=>?_)<|λhd=>?_
  .rintro v rfl;let⟨p1,p2⟩:=Fk hx n;let⟨q1,q2⟩:=Fk hy n;refine A6 (UE A4 A4) ?_;simp only[Cg]
   generalize hX:x.getD n 0=X at*
   generalize hY:y.getD n 0=Y at*
   have bE:Lm X Y c=some ((X+Y+c)%BB,(X+Y+c)/BB):=by unfold Lm Gz;rw[B4 p1,B4 p2,B4 q1,B4 q2];rcases h3 with rfl|rfl<;>rfl
   refine A6 bE<|A6 (UE A4 A4)<|A6 (UE A4 A4)<|A6 B9 ?_
   have hdm:=Ob (X+Y+c) BB;have Kt:0<=(X+Y+c)%BB:=Lu _ (by unfold BB;omega);have hr1:(X+Y+c)%BB<BB:=LI _ (by unfold BB;omega);have hq:(X+Y+c)/BB=0\/(X+Y+c)/BB=1:=AL;refine hn _ ⟨KZ h1 _ ⟨Kt,hr1⟩,by simpa using h2,hq,by dsimp;omega,by dsimp;omega,?_⟩ (by dsimp;omega);have e:(((n:Nat):Int)+1).toNat=n+1:=A4;simp[e,Cg];rw[Xf (by simpa using by omega),HB<|BK _,J9 A4,Xf A4,hX,Je];have hy':AN (y.take<|n+1)=AN (y.take n)+Az n*Y:=by
    rcases Hj n y.length with h|h
    .rw[Xf h,hY]
    .have:Y=0:=by rw[<-hY];simp[JH,h]
     rw[this,D5 A4,D5 h];omega
   rw[hy'];have key:Az n*((X+Y+c)%BB)+BB*Az n*((X+Y+c)/BB)=Az n*(X+Y+c):=AL;have k2:Az n*(X+Y+c)=Az n*X+Az n*Y+Az n*c:=AL;omega
  .have hd:=Ar hd;exact A6 (UE A4 hd)<|hk _ AX
  .grind
 .have hc:=Bg hc;have HJ:n=x.length:=A4;subst HJ;refine A6 (UE A4 A4)<|A6 (UE A4 A4) ?_
  have FC:0<=c/\c<BB:=by unfold BB;omega
  refine Ap (Rq (KZ h1 x.length FC) DD) λw ⟨w1,w2,_⟩=>AU ⟨w1,?_⟩
  have e1:=RZ (o.set x.length c) x.length (by rw[LH];omega);have e2:(o.set x.length c).drop x.length=[c]:=by rw[aiQ A4,NX,Mx (by rw[E1];omega)];have:(o.drop<|x.length+1)=[]:=Mx A4;rw[this,E1,EU A4];simp
  rw[e2,HB<|BK _] at e1;rw[D5 (l:=x) A4,D5 (l:=y) A4] at h6;rw[show AN [c]=c from by simp[AN]] at e1;omega
def zK(h:n<l.length):AN l=AN (l.take n)+Az n*(l.getD n 0+BB*AN (l.drop<|n+1)):=by
 rw[RZ l n A4]
 congr 2
 rw[UC h,NM]
 congr 1
 simp[JH,h]
def fS(h:m<=n):Az m<=Az n:=by obtain⟨k,rfl⟩:∃k,n=m+k:=⟨n-m,A4⟩;rw[gJ];have a:=Lk m;have b:=Lk k;have:Az m*1<=Az m*Az k:=Eu A4 A4;omega
def YM(ha:okW a)(hb:Norm b)(h:a.length<b.length):AN a<AN b:=by have h1:=(Gc ha).2;have h2:=TW hb.1 (by intro e;subst e;simp at h) hb.2;have h3:=fS (show a.length<=b.length-1 by omega);omega
theorem tR(ha:Norm a)(hb:Norm b)(hla:a.length<4398046511104)(hlb:b.length<4398046511104):Yd (λr=>(r= -1/\AN a<AN b)\/(r=0/\AN a=AN b)\/(r=1/\AN b<AN a)) (XO a b):=by
 unfold XO;refine Ac (λhc=>Ac (λhd=>?_)<|λhd=>?_)<|λhc=>?_
 .have hd:=Ar hd;exact AU<| .inl ⟨rfl,YM ha.1 hb A4⟩
 .have hd:=Bg hd;rw[G5,Ij] at hc;exact AU<| .inr<| .inr ⟨rfl,YM hb.1 ha A4⟩
 .rw[WE,Hl] at hc;have hl:a.length=b.length:=A4;refine A6 B9 ?_;refine EO (λs:Int=> -1<=s/\s<a.length/\a.drop (s+1).toNat=b.drop (s+1).toNat) (λs:Int=>(s+1).toNat) ?_ _ _ ⟨A4,A4,?_⟩ A4
  .rintro next s ⟨h0,h1,h2⟩ hn
   refine Ac (λhp=>?_)<|λhp=>?_
   .have hp:=Ar hp;obtain⟨n,rfl⟩:=Ez hp;have en:(((n:Nat):Int)+1).toNat=n+1:=A4;rw[en] at h2;refine A6 (Bh A4)<|A6 (Bh A4) ?_
    have eA:=zK (l:=a) (n:=n) A4;have eB:=zK (l:=b) (n:=n) A4;rw[h2] at eA;let⟨tA0,tA⟩:=Gc<|ME ha.1 n
    let⟨tB0,tB⟩:=Gc<|ME hb.1 n
    rw[E1,EU A4] at tA tB;have hpw:=Lk n;have gA:AB a (n:Int)=some (a.getD n 0):=Bh A4;have gB:AB b (n:Int)=some (b.getD n 0):=Bh A4;have dA:a.drop n=a.getD n 0::a.drop (n+1):=by
     rw[UC (show n<a.length by omega)]
     congr 1
     simp[JH,show n<a.length by omega]
    have dB:b.drop n=b.getD n 0::b.drop (n+1):=by
     rw[UC (show n<b.length by omega)]
     congr 1
     simp[JH,show n<b.length by omega]
    generalize a.getD n 0=X at*
    generalize b.getD n 0=Y at*
    have eA':AN a=AN (a.take n)+Az n*X+Az n*(BB*AN (b.drop<|n+1)):=AL;have eB':AN b=AN (b.take n)+Az n*Y+Az n*(BB*AN (b.drop<|n+1)):=AL;refine Ac (λhx=>?_)<|λhx=>?_
    .rw[G5,Ij] at hx;refine A6 gA<|A6 gB<|Ac (λhlt=>?_)<|λhlt=>?_
     .have hlt:=Ar hlt;have:Az n*(X+1)<=Az n*Y:=Eu A4 A4;rw[DU,Ln] at this;exact AU<| .inl ⟨rfl,A4⟩
     .have hlt:=Bg hlt;have:Az n*(Y+1)<=Az n*X:=Eu A4 A4;rw[DU,Ln] at this;exact AU<| .inr<| .inr ⟨rfl,A4⟩
    .rw[WE,Hl] at hx;refine A6 B9<|hn _ ⟨A4,A4,?_⟩ A4
     have:(((n:Nat):Int)-1+1).toNat=n:=A4;rw[this,dA,dB,hx,h2]
   .have hp:=Bg hp;have:s= -1:=A4;subst this;exact AU (.inr (.inl ⟨rfl,by simpa using congrArg AN h2⟩))
  .have:((a.length:Int)-1+1).toNat=a.length:=A4;rw[this,S8,hl,S8]
theorem pF{c:Int}(hx:0<=X/\X<BB)(hy:0<=Y/\Y<BB)(hc:c=0\/c=1):∃r d:Int,S1 X Y c=some (r,d)/\0<=r/\r<BB/\(d=0\/d=1)/\X-Y-c=r-BB*d:=by
 have h:S1 X Y c=some ((X-Y-c)%GK,bif decide (X<Y+c) then 1 else 0):=by unfold S1 Gz;rw[B4 hx.1,B4 hx.2,B4 hy.1,B4 hy.2];rcases hc with rfl|rfl<;>rfl
 refine⟨_,_,h,Lu _ (by unfold GK;omega),LI _ (by unfold GK;omega),?_,?_⟩
 .grind
 .unfold GK BB at*;by_cases h:X<Y+c
  .grind
  .grind
def WT{c:Int}(hx:0<=X/\X<BB)(hy:0<=Y/\Y<BB)(hc:c=0\/c=1):∃r d:Int,Lm X Y c=some (r,d)/\0<=r/\r<BB/\(d=0\/d=1)/\X+Y+c=r+BB*d:=by
 have h:Lm X Y c=some ((X+Y+c)%GK,(X+Y+c)/GK):=by unfold Lm Gz;rw[B4 hx.1,B4 hx.2,B4 hy.1,B4 hy.2];rcases hc with rfl|rfl<;>rfl
 refine⟨_,_,h,Lu _ (by unfold GK;omega),LI _ (by unfold GK;omega),?_,?_⟩
 .unfold GK BB at*;omega
 .have:=Ob (X+Y+c) GK;unfold GK BB at*;omega
def gZ(hx:0<=X/\X<BB)(hy:0<=Y/\Y<BB):∃hi lo:Int,QT X Y=some (hi,lo)/\0<=hi/\hi<=BB-2/\0<=lo/\lo<BB/\X*Y=lo+BB*hi:=by
 have h:QT X Y=some (X*Y/GK,X*Y%GK):=by
  unfold QT Gz;rw[B4 hx.1,B4 hx.2,B4 hy.1,B4 hy.2]
  rfl
 have h1:=Ob (X*Y) GK;have h2:0<=X*Y:=LF hx.1 hy.1;have h3:X*Y<=(BB-1)*(BB-1):=PZ A4 A4 hy.1 (by unfold BB;omega);have h4:0<=X*Y%GK:=Lu _ (by unfold GK;omega);have h5:X*Y%GK<GK:=LI _ (by unfold GK;omega);refine⟨_,_,h,?_,?_,h4,h5,?_⟩
 .exact LG h2 (by unfold GK;omega)
 .generalize X*Y/GK=q at*
  generalize X*Y%GK=r at*
  generalize X*Y=p at*
  unfold GK BB at*;omega
 .unfold GK BB at*;omega
theorem ie(h:l.length<=n):l.getD n 0=0:=by grind
def F9(l:A3 Int)(n:Nat):AN (l.take<|n+1)=AN (l.take n)+Az n*l.getD n 0:=by
 rcases Hj n l.length with h|h
 .exact Xf h
 .rw[ie h,D5 A4,D5 h];omega
theorem vA(ha:okW a)(hb:okW b)(hl:b.length<=a.length)(hla:a.length<4398046511104)(hv:AN b<=AN a):Yd (λw=>Norm w/\AN w=AN a-AN b) (Xl a b):=by
 unfold Xl;refine A6 (Pt A4 A4 A4) ?_;refine EO (λs:A3 Int×Int×Int=>okW s.1/\s.1.length=a.length/\(s.2.1=0\/s.2.1=1)/\0<=s.2.2/\s.2.2<=a.length/\AN (s.1.take s.2.2.toNat)=AN (a.take s.2.2.toNat)-AN (b.take s.2.2.toNat)+Az s.2.2.toNat*s.2.1)
  (λs:A3 Int×Int×Int=>a.length-s.2.2.toNat) ?_ _ _ ⟨VD _,by simp only[Nd];omega,.inl rfl,BY,BY,by simp[AN]⟩ BY
 rintro next ⟨o,c,i⟩ ⟨h1,h2,h3,h4,h5,h6⟩ hn
 simp only at h1 h2 h3 h4 h5 h6 hn⊢;obtain⟨n,rfl⟩:=Ez h4;simp only[Cg,MR] at*;refine Ac (λhc=>?_)<|λhc=>?_
 .have hc:=Ar hc;refine DI (λv=>v=b.getD n 0) ?_ λk hk=>Ac (λhd=>?_)<|λhd=>?_
  .rintro v rfl;let⟨r,d,e1,e2,e3,e4,e5⟩:=pF (Fk ha n) (Fk hb n) h3;refine A6 (Bh A4)<|A6 e1<|A6 (Bh A4)<|A6 (Bh A4)<|A6 B9 ?_
   refine hn _ ⟨KZ h1 _ ⟨e2,e3⟩,by simpa using h2,e4,BY,BY,?_⟩ BY;have e:(((n:Nat):Int)+1).toNat=n+1:=A4;simp only[e,Cg];rw[F9,HB<|BK _,J9 A4,F9 a,F9 b,Je]
   generalize a.getD n 0=X at*
   generalize b.getD n 0=Y at*
   have key:Az n*(X-Y-c)=Az n*r-BB*Az n*d:=AL;have k2:Az n*(X-Y-c)=Az n*X-Az n*Y-Az n*c:=AL;omega
  .have hd:=Ar hd;exact A6 (Bh A4)<|hk _ rfl
  .grind
 .have hc:=Bg hc;have HJ:n=a.length:=A4;subst HJ;refine Ap (Rq h1 A4) λw ⟨w1,w2,_⟩=>AU ⟨w1,?_⟩
  rw[w2];rw[D5 (l:=o) A4,D5 (l:=a) A4,D5 (l:=b) A4] at h6;have Ba:=(Gc h1).2;rw[h2] at Ba;have hp:=Lk a.length;rcases h3 with rfl|rfl
  .omega
  .omega
def aeQ(h:AN (l.drop n)=0)(hk:okW l)(hm:n<=m):l.getD m 0=0:=by
 have key:∀(l:A3 Int) (j:Nat),okW l->AN l=0->l.getD j 0=0:=by
  intro l
  induction l with
  |nil=>intro j _ _;simp
  |cons x l ih=>intro j hk hv;rw[PJ] at hk;rw[NM] at hv;have h1:=(Gc hk.2).1;have hx:=hk.1;unfold BB at*;cases j with|zero=>simp;omega|succ j=>simpa using ih j hk.2 A4
 have:=key (l.drop n) (m-n) (Ro hk n) h;simpa[JH,U6,show n+(m-n)=m by omega] using this
theorem afO(ha:okW a)(hb:okW b)(hla:a.length<2199023255552)(hlb:b.length<2199023255552):Yd (λw=>Norm w/\AN w=AN a*AN b) (cz a b):=by
 unfold cz;refine A6 B9<|A6 (Pt A4 A4 A4) ?_
 refine EO (λs:A3 Int×Int=>okW s.1/\s.1.length=a.length+b.length/\0<=s.2/\s.2<=a.length/\AN (s.1.take<|s.2.toNat+b.length)=AN (a.take s.2.toNat)*AN b)
  (λs:A3 Int×Int=>a.length-s.2.toNat) ?_ _ _ ⟨VD _,by simp only[Nd];omega,BY,BY,?_⟩ BY
 rotate_left
 .dsimp only;rw[ZZ,lC];simp[AN]
 rintro next ⟨o,i⟩ ⟨h1,h2,h3,h4,h5⟩ hn
 simp only at h1 h2 h3 h4 h5 hn⊢;obtain⟨n,rfl⟩:=Ez h3;simp only[Cg,MR] at*;refine Ac (λhc=>?_)<|λhc=>?_
 .have hc:=Ar hc;refine A6 (Bh A4) ?_;refine EO (λs:A3 Int×Int×Int=>okW s.1/\s.1.length=a.length+b.length/\(0<=s.2.1/\s.2.1<BB)/\0<=s.2.2/\s.2.2<=b.length/\s.1.drop (n+s.2.2.toNat)=o.drop (n+s.2.2.toNat)/\
    AN (s.1.take<|n+s.2.2.toNat)+Az (n+s.2.2.toNat)*s.2.1=AN (o.take<|n+s.2.2.toNat)+Az n*(a.getD n 0*AN (b.take s.2.2.toNat)))
   (λs:A3 Int×Int×Int=>b.length-s.2.2.toNat) ?_ _ _ ⟨h1,h2,⟨BY,by dsimp only;unfold BB;omega⟩,BY,BY,rfl,by simp[AN]⟩ BY
  rintro Fp ⟨p,c,j⟩ ⟨g1,g2,g3,g4,g5,g6,g7⟩ IW;simp only at g1 g2 g3 g4 g5 g6 g7 IW⊢;obtain⟨m,rfl⟩:=Ez g4;simp only[Cg,MR] at*;have eo:p.getD (n+m) 0=o.getD (n+m) 0:=by have:=congrArg (λl=>l.getD 0 0) g6;simpa[JH,U6] using this
  refine Ac (λhd=>?_)<|λhd=>?_
  .have hd:=Ar hd;let⟨hi,lo,m1,m2,m3,m4,m5,m6⟩:=gZ (Fk ha n)<|Fk hb m
   let⟨r1,d1,a1,a2,a3,a4,a5⟩:=WT (X:=lo) (Y:=p.getD (n+m) 0) (c:=0) ⟨m4,m5⟩ (Fk g1 _)<| .inl rfl
   let⟨r2,d2,b1,b2,b3,b4,b5⟩:=WT (X:=r1) (Y:=c) (c:=0) ⟨a2,a3⟩ g3<| .inl rfl
   have enm:((n:Nat):Int)+((m:Nat):Int)=((n+m:Nat):Int):=A4;rw[enm];refine A6 (Bh A4)<|A6 m1<|A6 B9<|A6 (Bh A4)<|A6 (Bh A4)<|A6 a1<|A6 b1<|A6 B9<|A6 (Bh A4)<|A6 (Bh A4)<|A6 B9 ?_
   let⟨xa,xb⟩:=Fk ha n;let⟨ya,yb⟩:=Fk hb m;let⟨oa,ob⟩:=Fk g1<|n+m
   have N9:a.getD n 0*b.getD m 0<=(BB-1)*(BB-1):=PZ A4 A4 ya (by unfold BB;omega);have hD:BB*(hi+d1+d2)=a.getD n 0*b.getD m 0+p.getD (n+m) 0+c-r2:=AL;have hlt:hi+d1+d2<BB:=AL;have hw:wr .u64 (wr .u64 (hi+d1)+d2)=hi+d1+d2:=by have e1:wr .u64 (hi+d1)=hi+d1:=wrap_u64 ⟨A4,by unfold BB at*;omega⟩;rw[e1];exact wrap_u64 ⟨A4,by unfold BB at*;omega⟩
   dsimp only;rw[hw];refine IW _ ⟨KZ g1 _ ⟨b2,b3⟩,by simpa using g2,⟨BY,hlt⟩,BY,BY,?_,?_⟩ BY
   .have e:(((m:Nat):Int)+1).toNat=m+1:=A4;simp only[e,Cg];rw[iL A4,<-LD];have:=congrArg (List.drop 1) g6;rwa [FR,FR] at this
   .have e:(((m:Nat):Int)+1).toNat=m+1:=A4;simp only[e,Cg];rw[<-LD,F9,HB<|BK _,J9 A4,F9 o,F9 b,<-eo,Je];have k1:Az n*(a.getD n 0*(AN (b.take m)+Az m*b.getD m 0))=Az n*(a.getD n 0*AN (b.take m))+Az (n+m)*(a.getD n 0*b.getD m 0):=by rw[DU,DU,gJ,GI (a.getD n 0)<|Az m,FG]
    have k2:Az (n+m)*r2+BB*Az (n+m)*(hi+d1+d2)=Az (n+m)*(a.getD n 0*b.getD m 0)+Az (n+m)*p.getD (n+m) 0+Az (n+m)*c:=AL;rw[k1];omega
  .have hd:=Bg hd;have KS:m=b.length:=A4;subst KS;have enm:((n:Nat):Int)+((b.length:Nat):Int)=((n+b.length:Nat):Int):=A4;rw[enm];refine A6 B9<|A6 (Bh A4)<|A6 (Bh A4)<|A6 B9 ?_
   refine hn _ ⟨KZ g1 _ g3,by simpa using g2,BY,BY,?_⟩ BY;have e:(((n:Nat):Int)+1).toNat=n+1:=A4;simp only[e,Cg];rw[show n+1+b.length=(n+b.length)+1 from by omega,F9,HB<|BK _,J9 A4,F9 a,IA];rw[D5 (l:=b) A4,h5] at g7;rw[g7,FG]
 .have hc:=Bg hc;have HJ:n=a.length:=A4;subst HJ;refine Ap (Rq h1 A4) λw ⟨w1,w2,_⟩=>AU ⟨w1,?_⟩
  rw[w2];rw[D5 (l:=o) A4,D5 (l:=a) A4] at h5;exact h5
def wrW(n:Int):IntKind.wrap .u64 n=n%BB:=by
 unfold IntKind.wrap
 rfl
def Iv{n:Int}(h:0<=n/\n<BB):IntKind.wrap .u64 n=n:=by rw[wrW,U5 h.1 h.2]
theorem aaS(hx:0<=x)(hy:0<=y)(hs:y<2^s)(hd:x%2^s=0)(hw:x+y<BB):GW .or .u64 x y=x+y:=by
 obtain⟨a,rfl⟩:=Ez hx;obtain⟨b,rfl⟩:=Ez hy;have DO:b<2^s:=AL;have hd':a%2^s=0:=AL;have ho:a|||b=a+b:=by
  have e:a=2^s*(a/2^s):=by have:=Nat.div_add_mod a (2^s);omega
  rw[e,<-Nat.two_pow_add_eq_or_of_lt DO]
 have hb:a+b<2^64:=AL;unfold GW;show IntKind.wrap .u64 ((BitVec.ofInt 64 a|||BitVec.ofInt 64 b).toNat:Int)=_;have e1:BitVec.ofInt 64 (a:Int)=BitVec.ofNat 64 a:=iN ..;have e2:BitVec.ofInt 64 (b:Int)=BitVec.ofNat 64 b:=iN ..;rw[e1,e2,BitVec.toNat_or,iJ,iJ,S9 A4,S9 A4,ho];exact Iv ⟨A4,A4⟩
theorem zA(hx:0<=x/\x<BB):GW .and .u64 x 4294967295=x%4294967296:=by obtain⟨a,rfl⟩:=Ez hx.1;have hb:a<2^64:=AL;unfold GW;show IntKind.wrap .u64 ((BitVec.ofInt 64 a&&&BitVec.ofInt 64 ((4294967295:Nat):Int)).toNat:Int)=_;have e1:BitVec.ofInt 64 (a:Int)=BitVec.ofNat 64 a:=iN ..;have e2:BitVec.ofInt 64 ((4294967295:Nat):Int)=BitVec.ofNat 64 4294967295:=iN ..;rw[e1,e2,BitVec.toNat_and,iJ,iJ,S9 hb,S9 A4,show 4294967295=2^32-1 from rfl,Nat.and_two_pow_sub_one_eq_mod];have:a%2^32<2^32:=OL _ A4;rw[Iv ⟨A4,by unfold BB;omega⟩];omega
def jl(hs:s<=64):MZ .u64 x (s:Int)=some (x/2^s):=by
 rw[anw A4]
 congr 1
 rw[Cg,EU<|show s<=IntKind.bits .u64 from hs];exact Int.fdiv_eq_ediv_of_nonneg _<|ET<|Int.pow_pos A4
def jm(hs:s<=64):Ma .u64 x (s:Int)=some (x*2^s%BB):=by
 rw[anx A4]
 congr 1
 rw[Cg,EU<|show s<=IntKind.bits .u64 from hs,wrW]
def dR(h:s<=64):(2:Int)^s*2^(64-s)=BB:=by rw[<-Int.pow_add,show s+(64-s)=64 from by omega];rfl
def two_pos(s:Nat):(0:Int)<2^s:=Int.pow_pos A4
def vR(hs:s<=64)(hx:0<=x/\x<BB):∃lo hi:Int,Ma .u64 x (s:Int)=some lo/\MZ .u64 x ((64:Int)-(s:Int))=some hi/\0<=lo/\lo<BB/\0<=hi/\hi<2^s/\lo%2^s=0/\x*2^s=lo+BB*hi:=by
 have e64:((64:Int)-(s:Int))=((64-s:Nat):Int):=A4;have h2:=dR hs;have p1:=two_pos s;have p2:=two_pos<|64-s
 have ab9:x*2^s=(x%2^(64-s))*2^s+BB*(x/2^(64-s)):=by
  conv=>lhs;rw[<-Ob x (2^(64-s))]
  rw[IA,<-h2,Int.mul_right_comm,FB (2^(64-s))<|2^s]
 have r0:=Lu x (show(2:Int)^(64-s)≠0 by omega);have r1:=LI x p2;have hlt:(x%2^(64-s))*2^s<BB:=by rw[<-h2,FB];exact Int.mul_lt_mul_of_pos_left r1 p1
 have Lb:0<=(x%2^(64-s))*2^s:=LF r0<|ET p1
 refine⟨(x%2^(64-s))*2^s,x/2^(64-s),?_,?_,Lb,hlt,LG hx.1<|ET p2,?_,Int.mul_emod_left _ _,ab9⟩
 .rw[jm hs,ab9,Int.add_mul_emod_self_left,U5 Lb hlt]
 .rw[e64,jl A4]
 .refine Zb p2 ?_;rw[h2];exact hx.2
structure HS(y1 y0 N d q r:Int):Prop where
 q0:0<=q
 q1:q<=4294967297
 e:q*y1+r=N
 r0:0<=r
 r1:r<4294967296
 up:N*4294967296+d<(q+1)*(y1*4294967296+y0)
structure HQ(y1 y0 N d q:Int):Prop where
 q0:0<=q
 q1:q<4294967296
 lo:q*(y1*4294967296+y0)<=N*4294967296+d
 up:N*4294967296+d<(q+1)*(y1*4294967296+y0)
structure HP(y1 y0 N d:Int):Prop where
 a0:2147483648<=y1
 a1:y1<4294967296
 b0:0<=y0
 b1:y0<4294967296
 n0:0<=N
 n1:N<y1*4294967296+y0
 d0:0<=d
 d1:d<4294967296
def aa5(p:HP y1 y0 N d):HS y1 y0 N d (N/y1) (N-N/y1*y1):=by
 let⟨a0,a1,b0,b1,n0,n1,d0,d1⟩:=p;have h1:=Ob N y1;have h2:=Lu N (show y1≠0 by omega);have h3:=LI N (show 0<y1 by omega);have h4:0<=N/y1:=LG n0 A4
 generalize N/y1=q at*
 generalize N%y1=r at*
 rw[FB y1 q] at h1;refine⟨h4,?_,A4,A4,A4,?_⟩
 .have:q<=4294967297\/4294967298<=q:=A4;rcases this with h|h
  .exact h
  .have:4294967298*y1<=q*y1:=Mz h A4;omega
 .have hq:0<=q*y0:=LF h4 b0;rw[IA,DU,<-FG];omega
def abj{r:Int}(p:HP y1 y0 N d)(h:HS y1 y0 N d q r)(hc: ¬4294967296<=q)(hd: ¬4294967296*r+d<q*y0):HQ y1 y0 N d q:=by let⟨a0,a1,b0,b1,n0,n1,d0,d1⟩:=p;let⟨q0,q1,e,r0,r1,up⟩:=h;refine⟨q0,A4,?_,up⟩;rw[DU,<-FG];omega
theorem jU{r:Int}(p:HP y1 y0 N d)(h:HS y1 y0 N d q r)(hc:4294967296<=q\/4294967296*r+d<q*y0):1<=q/\N*4294967296+d<(q-1+1)*(y1*4294967296+y0):=by
 let⟨a0,a1,b0,b1,n0,n1,d0,d1⟩:=p;let⟨q0,q1,e,r0,r1,up⟩:=h;have e1:q-1+1=q:=A4;rw[e1,DU,<-FG];rcases hc with hc|hc
 .refine⟨A4,?_⟩;have h1:4294967296*y1<=q*y1:=Mz hc A4;have h2:4294967296*y0<=q*y0:=Mz hc A4;omega
 .grind
theorem yh{r:Int}(p:HP y1 y0 N d)(h:HS y1 y0 N d q r)(hc:4294967296<=q\/4294967296*r+d<q*y0)(hb:4294967296<=r+y1):HQ y1 y0 N d (q-1):=by
 let⟨u1,u2⟩:=jU p h hc;let⟨a0,a1,b0,b1,n0,n1,d0,d1⟩:=p;let⟨q0,q1,e,r0,r1,up⟩:=h;have hy:(q-1)*y0<=4294967296*y0:=Mz A4 b0;have e2:(q-1)*y1=q*y1-y1:=AL;have lo:(q-1)*(y1*4294967296+y0)<=N*4294967296+d:=AL;refine⟨A4,?_,lo,u2⟩;have:q-1<4294967296\/4294967296<=q-1:=A4;rcases this with h|h
 .exact h
 .grind
theorem aa4{r:Int}(p:HP y1 y0 N d)(h:HS y1 y0 N d q r)(hc:4294967296<=q\/4294967296*r+d<q*y0)(hb:r+y1<4294967296):HS y1 y0 N d (q-1) (r+y1):=by let⟨u1,u2⟩:=jU p h hc;let⟨a0,a1,b0,b1,n0,n1,d0,d1⟩:=p;let⟨q0,q1,e,r0,r1,up⟩:=h;have e2:(q-1)*y1=q*y1-y1:=AL;exact⟨A4,A4,A4,A4,A4,u2⟩
theorem aa6{r:Int}(p:HP y1 y0 N d)(h:HS y1 y0 N d q r):((decide<|4294967296<=q)||(decide<|(IntKind.wrap .u64<|(IntKind.wrap .u64<|4294967296*r)+d)<(IntKind.wrap .u64<|q*y0)))=decide (4294967296<=q\/4294967296*r+d<q*y0):=by
 let⟨a0,a1,b0,b1,n0,n1,d0,d1⟩:=p;let⟨q0,q1,e,r0,r1,up⟩:=h;rw[Iv (n:=4294967296*r) ⟨A4,by unfold BB;omega⟩,Iv (n:=4294967296*r+d) ⟨A4,by unfold BB;omega⟩];by_cases hq:4294967296<=q
 .grind
 .have h1:0<=q*y0:=LF q0 b0;have h2:q*y0<=4294967295*4294967295:=PZ A4 A4 b0 A4;rw[Iv (n:=q*y0) ⟨h1,by unfold BB;omega⟩,Bo hq,Tx]
  congr 1
  simp[hq]
def aa7(p:HP y1 y0 N d)(h:HQ y1 y0 N d q)(hy:y=y1*4294967296+y0):IntKind.wrap .u64 (IntKind.wrap .u64 (IntKind.wrap .u64 (N*4294967296)+d)-IntKind.wrap .u64 (q*y))=N*4294967296+d-q*y:=by
 let⟨a0,a1,b0,b1,n0,n1,d0,d1⟩:=p;let⟨q0,q1,lo,up⟩:=h;subst hy;simp only[wrW];rw[IA,JD] at up
 generalize q*(y1*4294967296+y0)=Z at*
 unfold BB;omega
def YX(h:n≠0):2^Nat.log2 n<=n/\n<2^(Nat.log2 n+1):=⟨Nat.log2_self_le h,Nat.lt_log2_self⟩
theorem aay(h0:0<y)(h1:y<BB):∃s:Nat,WW y=some (s:Int)/\s<=63/\BB<=2*(y*2^s)/\y*2^s<BB:=by
 obtain⟨n,rfl⟩:=Ez<|ET h0
 have hn:n≠0:=A4;let⟨l1,l2⟩:=YX hn;have hl:Nat.log2 n<=63:=by
  have:Nat.log2 n<64:=by rw[QV hn];have:n<18446744073709551616:=AL;exact this
  omega
 refine⟨63-Nat.log2 n,?_,A4,?_,?_⟩
 .unfold WW Gz;rw[B4 (show(0:Int)<=(n:Int) by omega),B4<|show((n:Nat):Int)<18446744073709551616 from h1];show some (64-((Nl ((n:Nat):Int).toNat:Nat):Int))=_;have:Nl n=Nat.log2 n+1:=by
   unfold Nl;have:Nat.beq n 0=false:=by cases hb:Nat.beq n 0 with|false=>rfl|true=>exact absurd (E9 hb) hn
   rw[this];rfl
  rw[Cg,this]
  congr 1;omega
 .have e:2^(63-Nat.log2 n)*2^Nat.log2 n=2^63:=by rw[<-Mp];congr 1;omega
  have:2^63<=2^(63-Nat.log2 n)*n:=by rw[<-e];exact ZX _ l1
  have h2:(2:Int)^63<=2^(63-Nat.log2 n)*(n:Int):=AL;rw[FB] at h2;unfold BB;omega
 .have e:2^(63-Nat.log2 n)*2^(Nat.log2 n+1)=2^64:=by rw[<-Mp];congr 1;omega
  have:2^(63-Nat.log2 n)*n<2^64:=by rw[<-e];exact Nat.mul_lt_mul_of_pos_left l2<|Nat.two_pow_pos _
  have h2:2^(63-Nat.log2 n)*(n:Int)<(2:Int)^64:=AL;rw[FB] at h2;unfold BB;omega
def oe(hx:0<=x/\x<BB)(hy:0<y):Ul .u64 x y=some (x/y):=by unfold Ul;rw[Bo (show¬y=0 by omega)];show some (IntKind.wrap .u64<|x.tdiv y)=_;rw[Int.tdiv_eq_ediv_of_nonneg hx.1,Iv ⟨LG hx.1<|ET hy,Int.lt_of_le_of_lt (S7 _ hx.1) hx.2⟩]
theorem QR(hx:0<=x)(hy:0<y):Fs x y=some (x%y):=by grind [Fs]
def abV:MZ .u64 x 32=some (x/4294967296):=jl (s:=32) A4
theorem xh{hi lo:Int}(Kv:0<=hi/\hi<y)(Fi:0<=lo/\lo<BB)(hy:y<BB):Yd (λp=>(0<=p.1/\p.1<BB)/\(0<=p.2/\p.2<y)/\hi*BB+lo=p.1*y+p.2) (XR hi lo y):=by
 unfold XR;dsimp only[wr];refine Ac (λhc=>absurd (Ar hc) A4)<|λ_=>Ac (λhc=>absurd (Ar hc) A4)<|λ_=>Ac (λh0=>?_)<|λh0=>?_
 .have h0:=Ar h0;subst h0;refine A6 (oe Fi Kv.2)<|A6 (QR Fi.1 Kv.2)<|AU ⟨⟨LG Fi.1 A4,Int.lt_of_le_of_lt (S7 _ Fi.1) Fi.2⟩,⟨Lu _ A4,LI _ Kv.2⟩,?_⟩
  have:=Ob lo y;rw[FB] at this;dsimp only;omega
 .have h0:=Bg h0;let⟨s,l1,l2,l3,l4⟩:=aay (y:=y) A4 hy;have ws:IntKind.wrap .u64 (s:Int)=s:=Iv ⟨A4,by unfold BB;omega⟩;have are:IntKind.wrap .u64 ((64:Int)-s)=64-s:=Iv ⟨A4,by unfold BB;omega⟩;have ps:=two_pos s;have hgt:hi*2^s+2^s<=y*2^s:=by
   have:(hi+1)*2^s<=y*2^s:=Mz A4<|ET ps
   rw[IA,JD] at this;exact this
  have hn:0<=hi*2^s:=LF Kv.1<|ET ps
  let⟨u0,u1,e1,e2,a1,a2,a3,a4,a5,a6⟩:=vR (x:=lo) (s:=s) A4 Fi;have eY:Ma .u64 y (s:Int)=some (y*2^s):=by rw[jm A4,U5 A4 l4]
  have eH:Ma .u64 hi (s:Int)=some (hi*2^s):=by rw[jm A4,U5 hn A4]
  have eO:GW .or .u64 (hi*2^s) u1=hi*2^s+u1:=aaS (s:=s) hn a3 a4 (Int.mul_emod_left _ _) A4;refine A6 l1 ?_;rw[ws,are];refine A6 eY<|A6 abV<|A6 eH<|A6 e2<|A6 e1<|A6 abV ?_
  rw[eO,zA (x:=u0) ⟨a1,a2⟩,zA (x:=y*2^s) ⟨A4,l4⟩];have X5:hi*BB*2^s+lo*2^s=(hi*2^s+u1)*BB+u0:=AL
  generalize hYd:y*2^s=Y at*
  generalize hNd:hi*2^s+u1=N at*
  have y1b:2147483648<=Y/4294967296:=AL;have y1c:Y/4294967296<4294967296:=AL;have yy:Y=Y/4294967296*4294967296+Y%4294967296:=A4;have hP1:HP (Y/4294967296) (Y%4294967296) N (u0/4294967296):=⟨y1b,y1c,A4,A4,A4,A4,A4,by unfold BB at*;omega⟩;have hu:u0=u0/4294967296*4294967296+u0%4294967296:=A4;have u00:0<=u0%4294967296:=A4;have u01:u0%4294967296<4294967296:=A4;have hYB:Y<BB:=l4
  generalize Y/4294967296=y1 at*
  generalize Y%4294967296=y0 at*
  generalize u0/4294967296=d1 at*
  generalize u0%4294967296=d0 at*
  have hN:0<=N/\N<BB:=⟨hP1.n0,A4⟩;refine A6 (oe hN A4) ?_;refine DI (HQ y1 y0 N d1) ?_ ?_
  .intro q1 hq1;rw[aa7 hP1 hq1 yy];have g1:=hq1.lo;have g2:=hq1.up;rw[<-yy] at g1 g2;rw[IA,JD] at g2;have hP2:HP y1 y0 (N*4294967296+d1-q1*Y) d0:=⟨y1b,y1c,hP1.b0,hP1.b1,A4,A4,u00,u01⟩
   generalize hM:N*4294967296+d1-q1*Y=M at*
   refine A6 (oe ⟨hP2.n0,A4⟩ A4) ?_;refine DI (HQ y1 y0 M d0) ?_ ?_
   .intro q0 hq0;rw[aa7 hP2 hq0 yy];have f1:=hq0.lo;have f2:=hq0.up;rw[<-yy] at f1 f2;rw[IA,JD] at f2;have NA:hi*BB*2^s+lo*2^s=(q1*4294967296+q0)*Y+(M*4294967296+d0-q0*Y):=AL
    generalize hR:M*4294967296+d0-q0*Y=R at*
    have hR0:0<=R:=A4;have hR1:R<Y:=A4;refine A6 (jl A4)<|AU ?_
    have q1a:=hq1.q0;have q1b:=hq1.q1;have q0a:=hq0.q0;have q0b:=hq0.q1;have eq:IntKind.wrap .u64 (IntKind.wrap .u64 (q1*4294967296)+q0)=q1*4294967296+q0:=by rw[Iv (n:=q1*4294967296) ⟨A4,by unfold BB;omega⟩,Iv ⟨A4,by unfold BB;omega⟩]
    dsimp only;rw[eq];have hdiv:R=2^s*(hi*BB+lo-(q1*4294967296+q0)*y):=AL;have hdd:R/2^s=hi*BB+lo-(q1*4294967296+q0)*y:=by rw[hdiv,Int.mul_ediv_cancel_left _ A4]
    refine⟨⟨A4,by unfold BB;omega⟩,⟨LG hR0 A4,Zb ps (by rw[hYd];exact hR1)⟩,?_⟩;rw[hdd];omega
   .intro k hk;have hi0:=aa5 hP2;have w1:0<=M/y1:=LG hP2.n0 A4;have e1:IntKind.wrap .u64 (M-IntKind.wrap .u64 (M/y1*y1))=M-M/y1*y1:=by have:=hi0.e;have:=hi0.r0;have:=hi0.r1;have h1:0<=M/y1*y1:=LF w1 A4;rw[Iv (n:=M/y1*y1) ⟨h1,by have:=hP2.n1;omega⟩,Iv ⟨A4,by unfold BB;omega⟩]
    rw[e1];refine EO (λs:Int×Int=>HS y1 y0 M d0 s.2 s.1) (λs:Int×Int=>s.2.toNat) ?_ _ _ hi0 (by have:=hi0.q0;have:=hi0.q1;dsimp only;omega);rintro next ⟨r,q⟩ h qy
    dsimp only at h⊢;rw[aa6 hP2 h];have wr1:IntKind.wrap .u64 (r+y1)=r+y1:=Iv ⟨by have:=h.r0;omega,by have:=h.r1;unfold BB;omega⟩;refine Ac (λhc=>?_)<|λhc=>?_
    .have hc:=Ar hc;have hup:=(jU hP2 h hc).1;have wq:IntKind.wrap .u64 (q-1)=q-1:=Iv ⟨A4,by have:=h.q1;unfold BB;omega⟩;simp only[wr1,wq];refine Ac (λhd=>?_)<|λhd=>?_
     .exact hk _<|yh hP2 h hc<|Ar hd
     .exact qy _ (aa4 hP2 h hc (by have:=Bg hd;omega)) BY
    .have hc:=Bg hc;exact hk _<|abj hP2 h (λa=>hc<| .inl a)<|λa=>hc<| .inr a
  .intro k hk;have hi0:=aa5 hP1;have w1:0<=N/y1:=LG hP1.n0 A4;have e1:IntKind.wrap .u64 (N-IntKind.wrap .u64 (N/y1*y1))=N-N/y1*y1:=by have:=hi0.e;have:=hi0.r0;have:=hi0.r1;have h1:0<=N/y1*y1:=LF w1 A4;rw[Iv (n:=N/y1*y1) ⟨h1,A4⟩,Iv ⟨A4,by unfold BB;omega⟩]
   rw[e1];refine EO (λs:Int×Int=>HS y1 y0 N d1 s.1 s.2) (λs:Int×Int=>s.1.toNat) ?_ _ _ hi0 (by have:=hi0.q0;have:=hi0.q1;dsimp only;omega);rintro next ⟨q,r⟩ h qy
   dsimp only at h⊢;rw[aa6 hP1 h];have wr1:IntKind.wrap .u64 (r+y1)=r+y1:=Iv ⟨by have:=h.r0;omega,by have:=h.r1;unfold BB;omega⟩;refine Ac (λhc=>?_)<|λhc=>?_
   .have hc:=Ar hc;have hup:=(jU hP1 h hc).1;have wq:IntKind.wrap .u64 (q-1)=q-1:=Iv ⟨A4,by have:=h.q1;unfold BB;omega⟩;simp only[wr1,wq];refine Ac (λhd=>?_)<|λhd=>?_
    .exact hk _<|yh hP1 h hc<|Ar hd
    .exact qy _ (aa4 hP1 h hc (by have:=Bg hd;omega)) BY
   .have hc:=Bg hc;exact hk _<|abj hP1 h (λa=>hc<| .inl a)<|λa=>hc<| .inr a
theorem akr:(List.replicate n (0:Int)).getD m 0=0:=by grind
def yV{lo:Int}(hs:s<=64)(h:lo%2^s=0)(hl:lo<BB):lo+2^s<=BB:=by
 have e:=Ob lo<|2^s
 rw[h] at e;have h2:=dR hs;have p:=two_pos s
 generalize lo/2^s=k at*
 have hk:k<2^(64-s):=by
  rcases(show k<2^(64-s)\/2^(64-s)<=k by omega) with h'|h'
  .exact h'
  .have:=Eu h' (ET p);omega
 have:=Eu (show k+1<=2^(64-s) from hk)<|ET p
 rw[DU,Ln] at this;omega
def z7(hx:0<=x)(hy:0<=y)(hs:y<2^s)(hd:x%2^s=0)(hw:x+y<BB):GW .or .u64 y x=x+y:=by rw[<-aaS hx hy hs hd hw];unfold GW;dsimp only;rw[BitVec.or_comm]
theorem vV(ha:okW a)(hs:s<=63)(hl:a.length<2199023255552):Yd (λw=>okW w/\w.length=a.length+1/\AN w=AN a*2^s) (Xx a (s:Int)):=by
 unfold Xx;refine A6 B9<|A6 (Pt A4 A4 A4) ?_
 have ps:=two_pos s;refine EO (λt:A3 Int×Int=>okW t.1/\t.1.length=a.length+1/\0<=t.2/\t.2<=a.length/\t.1.getD t.2.toNat 0<2^s/\(∀m,t.2.toNat<m->t.1.getD m 0=0)/\AN (t.1.take<|t.2.toNat+1)=AN (a.take t.2.toNat)*2^s)
  (λt:A3 Int×Int=>a.length-t.2.toNat) ?_ _ _ ⟨VD _,by simp only[Nd];omega,BY,BY,?_,?_,?_⟩ BY
 rotate_left
 .grind
 .grind
 .dsimp only;rw[ZZ,lC];simp[AN]
 rintro next ⟨o,i⟩ ⟨h1,h2,h3,h4,h5,h6,h7⟩ hn
 simp only at h1 h2 h3 h4 h5 h6 h7 hn⊢;obtain⟨n,rfl⟩:=Ez h3;simp only[Cg,MR] at*;refine Ac (λhc=>?_)<|λhc=>?_
 .have hc:=Ar hc;refine DI (λp:A3 Int=>okW p/\p.length=a.length+1/\p.getD (n+1) 0<2^s/\(∀m,n+1<m->p.getD m 0=0)/\AN (p.take<|n+2)=AN (a.take<|n+1)*2^s) ?_ ?_
  .rintro p ⟨g1,g2,g3,g4,g5⟩;refine A6 B9<|hn _ ⟨g1,g2,BY,BY,?_⟩ BY
   have e:(((n:Nat):Int)+1).toNat=n+1:=A4;simp only[e];exact⟨g3,g4,g5⟩
  .intro k hk;let⟨lo,hi,b1,b2,b3,b4,b5,b6,b7,b8⟩:=vR (x:=a.getD n 0) (s:=s) A4<|Fk ha n
   have acU:=yV A4 b7 b4;have ho:=Fk h1 n;have eor:GW .or .u64 (o.getD n 0) lo=lo+o.getD n 0:=z7 b3 ho.1 h5 b7 A4;refine A6 (Bh A4)<|A6 (Bh A4)<|A6 (Bh A4)<|A6 b1<|A6 (Bh A4)<|A6 (Bh A4) ?_
   rw[eor];have Kv:hi<BB:=AL;have r9:AN (o.take n)+Az n*o.getD n 0=AN (a.take n)*2^s:=by rw[<-h7,F9]
   have KD:AN (o.take n)+Az n*(lo+o.getD n 0)+Az (n+1)*hi=AN (a.take<|n+1)*2^s:=by rw[F9 a,IA,<-r9,FG,b8,DU,DU,Je,GI<|Az n,FG BB];omega
   refine Ac (λhd=>?_)<|λhd=>?_
   .have hd:=Ar hd;have e1:((n:Nat):Int)+1=((n+1:Nat):Int):=A4;rw[e1];refine A6 B9<|A6 B9<|A6 b2 ?_
    refine A6 (Bh (by rw[LH];omega)) (A6 (Bh (by rw[LH];omega)) ?_);simp only[Cg];refine hk _ ⟨KZ (KZ h1 _ ⟨A4,A4⟩) _ ⟨b5,Kv⟩,by simpa using h2,?_,?_,?_⟩
    .grind
    .intro m hm;rw[getD_set_ne A4,getD_set_ne A4];exact h6 m A4
    .rw[F9,HB<|BK _,J9 (by rw[LH];omega),F9,HB<|BK _,J9 A4];exact KD
   .have hd:=Bg hd;have hs0:s=0:=A4;subst hs0;have atP:hi=0:=AL;subst atP;refine hk _ ⟨KZ h1 _ ⟨A4,A4⟩,by simpa using h2,?_,?_,?_⟩
    .grind
    .intro m hm;rw[getD_set_ne A4];exact h6 m A4
    .have e2:(o.set n<|lo+o.getD n 0).getD (n+1) 0=0:=by rw[getD_set_ne A4,h6 _ A4]
     rw[F9,e2,F9,HB<|BK _,J9 A4];exact KD
 .have hc:=Bg hc;have HJ:n=a.length:=A4;subst HJ;refine AU ⟨h1,h2,?_⟩;rw[D5 (l:=o) A4,D5 (l:=a) A4] at h7;exact h7
def jP{m:Int}(hP:0<P)(hU:UL<P)(hV:0<=VL)(hm:0<=m)(h:X+1<=m*Y):UL+P*X<m*(VL+P*Y):=by
 have h1:=Eu h<|ET hP
 rw[DU,Ln] at h1;have h2:0<=m*VL:=LF hm hV;rw[DU,GI m P Y];omega
theorem amu{r:Int}(e:q*v1+r=U2)(h:BB*r+u0<q*v0):(u0+BB*U2)+1<=q*(v0+BB*v1):=by grind
def amx{r:Int}(e:q*v1+r=U2)(hr:r<v1)(hu:u0<BB)(hq:0<=q)(hv:0<=v0):(u0+BB*U2)+1<=(q+1)*(v0+BB*v1):=by rw[DU,GI _ BB v1,<-e,IA q 1 v1,JD];have:0<=(q+1)*v0:=LF A4 hv;unfold BB at*;omega
def amy{R:Int}(e:q*v1+R=U2)(hq:0<=q/\q<BB)(hR:0<=R)(Hy:0<=v0/\v0<BB)(hu0:0<=u0)(hv1:BB<=2*v1)(h:BB<=R\/q*v0<=BB*R+u0)
 (hP:0<P)(hU:0<=UL)(hV:VL<P)(hV0:0<=VL):(q-1)*(VL+P*(v0+BB*v1))<=UL+P*(u0+BB*U2):=by
 have hY:q*(v0+BB*v1)<=u0+BB*U2:=by
  rw[DU,GI q BB v1,<-e,DU];have:q*v0<=BB*R+u0:=by
   rcases h with h|h
   .have:q*v0<=(BB-1)*(BB-1):=PZ A4 A4 Hy.1 (by unfold BB;omega);unfold BB at*;omega
   .exact h
  omega
 have h1:=Eu hY<|ET hP
 have h2:q*VL<=BB*P:=PZ A4 A4 hV0 (by unfold BB;omega);have h3:P*BB<=P*(v0+BB*v1):=Eu (by unfold BB at*;omega)<|ET hP
 rw[ZD,JD,DU q,GI q P];rw[FB P BB] at h3;omega
theorem aoO{u1 u2:Int}(hP:0<P)(hU:0<=UL)(hu0:0<=u0)(hu1:0<=u1)(hV:VL<P)(Hy:v0<BB)(h:UL+P*(u0+BB*(u1+BB*u2))<BB*(VL+P*(v0+BB*v1))):u2<=v1:=by
 rcases(show v1<u2\/u2<=v1 by omega) with h'|h'
 .exfalso;have h1:BB*(v0+BB*v1+1)<=u0+BB*(u1+BB*u2):=AL;have h2:=Eu h1<|ET hP
  rw[GI P BB,DU P _ 1,Ln] at h2;rw[DU BB VL] at h;rw[DU BB _ P] at h2;have h3:BB*VL<=BB*P:=Eu A4 (by unfold BB;omega);omega
 .exact h'
theorem ai0(h:l.length=k+3):AN l=AN (l.take k)+Az k*(l.getD k 0+BB*(l.getD (k+1) 0+BB*l.getD (k+2) 0)):=by have h1:AN (l.take<|k+3)=AN l:=AL;rw[<-h1,F9,F9,F9,Je<|k+1,Je,DU,DU,DU,GI (Az k) BB,GI (Az k) BB,GI (Az k) BB,FG,FG,FG];omega
theorem aiA(h:l.length=k+2):AN l=AN (l.take k)+Az k*(l.getD k 0+BB*l.getD (k+1) 0):=by have h1:AN (l.take<|k+2)=AN l:=AL;rw[<-h1,F9,F9,Je,DU,GI (Az k) BB,FG];omega
def toNat_succ'(n:Nat):(((n:Nat):Int)+1).toNat=n+1:=by omega
theorem akZ{u v:A3 Int}(hu:okW u)(hv:okW v)(hul:u.length=k+3)(La:v.length=k+2)(hk:k<2199023255552)(X4:BB<=2*v.getD (k+1) 0)(hlt:AN u<BB*AN v):Yd (λr=>okW r.1/\r.1.length=k+3/\(0<=r.2/\r.2<BB)/\AN u=r.2*AN v+AN r.1/\AN r.1<AN v) (eS u v):=by
 unfold eS;have eU:=ai0 hul;have eV:=aiA La;let⟨bU0,bU1⟩:=Gc<|ME hu k
 let⟨bV0,bV1⟩:=Gc<|ME hv k
 rw[E1,EU A4] at bU1 bV1;have hP:=Lk k;have hu0:=Fk hu k;have hu1:=Fk hu<|k+1
 have hu2:=Fk hu<|k+2
 have Hy:=Fk hv k;have hv1:=Fk hv<|k+1
 have hVP:0<=AN v:=(Gc hv).1;have hU0:0<=AN u:=(Gc hu).1;have e1:((v.length:Int)-1)=((k+1:Nat):Int):=A4;have e2:((v.length:Int)-2)=((k:Nat):Int):=A4;have e0:(v.length:Int)=((k+2:Nat):Int):=A4;rw[e1,e2,e0];have gA:∀{l:A3 Int},l.length=k+3->AB l ((k+2:Nat):Int)=some (l.getD (k+2) 0):=λh=>Bh A4
 refine A6 (gA hul)<|A6 (gA hul)<|A6 B9<|A6 (Bh A4) ?_
 have hV:AN v<Az (k+2):=by have:=(Gc hv).2;rw[La] at this;exact this
 refine DI (λs:Int×Int×Int=>(0<=s.1/\s.1<BB)/\(0<=s.2.1/\s.2.1<BB)/\(s.2.2=0\/s.2.2=1)/\s.1*v.getD (k+1) 0+(s.2.1+BB*s.2.2)=u.getD (k+1) 0+BB*u.getD (k+2) 0/\AN u<(s.1+1)*AN v) ?_ ?_
 rotate_left
 .intro KI acS;refine Ac (λhc=>?_)<|λhc=>?_
  .have hc:=Ar hc;let⟨r,d,a1,a2,a3,a4,a5⟩:=WT (X:=u.getD (k+1) 0) (Y:=v.getD (k+1) 0) (c:=0) hu1 hv1<| .inl rfl
   refine A6 B9<|A6 (Bh A4)<|A6 (Bh A4)<|A6 B9<|A6 (Bh A4)<|A6 a1 ?_
   have abh:u.getD (k+2) 0<=v.getD (k+1) 0:=aoO hP bU0 hu0.1 hu1.1 bV1 Hy.2 (by rw[<-eU,<-eV];exact hlt);refine acS _ ⟨⟨BY,by dsimp only;unfold BB;omega⟩,⟨a2,a3⟩,a4,?_,?_⟩
   .dsimp only;unfold BB at*;omega
   .dsimp only;exact hlt
  .have hc:=Bg hc;refine A6 (gA hul)<|A6 (gA hul)<|A6 B9<|A6 (Bh A4)<|A6 (Bh A4)<|A6 B9<|A6 (Bh A4) ?_
   refine Ap (xh ⟨hu2.1,A4⟩ hu1 hv1.2) ?_;rintro⟨q,r⟩ ⟨d1,d2,d3⟩;dsimp only at d1 d2 d3⊢;have ee:q*v.getD (k+1) 0+r=u.getD (k+1) 0+BB*u.getD (k+2) 0:=by rw[FB BB];omega
   refine acS _ ⟨d1,⟨d2.1,BY⟩,.inl rfl,BY,?_⟩;dsimp only;have:=jP hP bU1 bV0 (show 0<=q+1 by omega)<|amx ee d2.2 hu0.2 d1.1 Hy.1
   rw[<-eU,<-eV] at this;exact this
 rintro⟨q1,r1,c1⟩ ⟨s1,s2,s3,s4,s5⟩;dsimp only at s1 s2 s3 s4 s5⊢;refine DI (λq:Int=>(0<=q/\q<BB)/\(q-1)*AN v<=AN u/\AN u<(q+1)*AN v) ?_ ?_
 rotate_left
 .intro NB atO;refine EO (λs:Int×Int×Int=>(0<=s.1/\s.1<BB)/\(0<=s.2.1/\s.2.1<BB)/\(s.2.2=0\/s.2.2=1)/\s.1*v.getD (k+1) 0+(s.2.1+BB*s.2.2)=u.getD (k+1) 0+BB*u.getD (k+2) 0/\AN u<(s.1+1)*AN v)
   (λs:Int×Int×Int=>s.1.toNat) ?_ _ _ ⟨s1,s2,s3,s4,s5⟩ (by dsimp only;unfold BB at*;omega)
  rintro next ⟨q,r,c⟩ ⟨h1,h2,h3,h4,h5⟩ hn
  dsimp only at h1 h2 h3 h4 h5 hn⊢;have fin:(BB<=r+BB*c\/q*v.getD k 0<=BB*(r+BB*c)+u.getD k 0)->Yd _ (NB q):=λhh=>by refine atO q ⟨h1,?_,h5⟩;have:=amy (P:=Az k) (UL:=AN<|u.take k) (VL:=AN<|v.take k) h4 h1 (by unfold BB at*;omega) Hy hu0.1 X4 hh hP bU0 bV1 bV0;rw[<-eU,<-eV] at this;exact this
  refine Ac (λhc=>?_)<|λhc=>?_
  .have hc:=Ar hc;subst hc;let⟨hi,lo,m1,m2,m3,m4,m5,m6⟩:=gZ h1 Hy;refine A6 B9<|A6 (Bh A4)<|A6 m1 ?_
   have key:Yd (λr=>okW r.1/\r.1.length=k+3/\(0<=r.2/\r.2<BB)/\AN u=r.2*AN v+AN r.1/\AN r.1<AN v)
     (cond (((decide<|hi<r)||((decide<|hi=r)&&(decide<|lo<=u.getD k 0)))) (NB q) (bd (AH ((k+1:Nat):Int)) λJR=>bd (AB v JR) λKq=>bd (Lm r Kq (0:Int)) λIT=>
     next (wr .u64<|q-(1:Int),IT.1,IT.2))):=by
    refine Ac (λhd=>?_)<|λhd=>?_
    .grind
    .have NA:BB*r+u.getD k 0<q*v.getD k 0:=by rw[m6];rw[MS,Bool.and_eq_false_iff,Ij,Ij,Ij] at hd;unfold BB at*;omega
     let⟨z,d,a1,a2,a3,a4,a5⟩:=WT (X:=r) (Y:=v.getD (k+1) 0) (c:=0) h2 hv1<| .inl rfl
     refine A6 B9<|A6 (Bh A4)<|A6 a1 ?_
     have hUq:=jP hP bU1 bV0 h1.1<|amu (q:=q) (r:=r) (v1:=v.getD (k+1) 0) (U2:=u.getD (k+1) 0+BB*u.getD (k+2) 0) A4 NA
     rw[<-eU,<-eV] at hUq;have hq1:1<=q:=AL;have ew:wr .u64 (q-1)=q-1:=Iv ⟨A4,A4⟩;rw[ew];refine hn _ ⟨⟨BY,BY⟩,⟨a2,a3⟩,a4,?_,?_⟩ BY
     .grind
     .grind
   have gO:∀{g:Bool} {e:AA Int} {x:Int} {K:Int->AA (A3 Int×Int)} {R:A3 Int×Int->Prop},e=some x->(g=true->Yd R (K x))->(g=false->Yd R (K 0))->Yd R (B1 g 0 e K):=λh a b=>GJ (λhg=>⟨_,h,a hg⟩) b
   refine gO B9 (λhg=>gO (Bh A4) (λkU=>gO (Bh A4) (λhg2=>key) (λh=>by rw[hg] at h;cases h)) (λh=>by rw[hg] at h;cases h))<|λhg=>?_
   refine GJ (λh=>by rw[hg] at h;cases h) (λ_=>GJ (λh=>by rw[hg] at h;cases h)<|λ_=>?_);have hgd:(decide (hi<r)||(decide (hi=r)&&decide (lo<=(0:Int))))=(decide (hi<r)||(decide (hi=r)&&decide (lo<=u.getD k 0))):=by
    cases ha:decide (hi<r)
    .cases hb:decide (hi=r)
     .rfl
     .rw[ha,hb] at hg;exact absurd hg Le
    .rfl
   dsimp only at hgd⊢;rw[hgd];exact key
  .grind
 rintro q ⟨hq,atK,atJ⟩;refine EO (λs:A3 Int×Int×Int×Int=>okW s.1/\s.1.length=k+3/\(s.2.1=0\/s.2.1=1)/\(0<=s.2.2.1/\s.2.2.1<BB)/\0<=s.2.2.2/\s.2.2.2<=(k+2:Nat)/\(∀m,s.2.2.2.toNat<=m->s.1.getD m 0=u.getD m 0)/\
   AN (u.take s.2.2.2.toNat)-q*AN (v.take s.2.2.2.toNat)=AN (s.1.take s.2.2.2.toNat)-Az s.2.2.2.toNat*(s.2.2.1+s.2.1))
  (λs:A3 Int×Int×Int×Int=>k+2-s.2.2.2.toNat) ?_ _ _ ⟨hu,hul,.inl rfl,⟨BY,by dsimp only;unfold BB;omega⟩,BY,BY,λ_ _=>rfl,by simp[AN]⟩ BY
 rintro next ⟨p,b,c,i⟩ ⟨h1,h2,h3,h4,h5,h6,h7,h8⟩ hn
 dsimp only at h1 h2 h3 h4 h5 h6 h7 h8 hn⊢;obtain⟨n,rfl⟩:=Ez h5;simp only[Cg,MR] at*;refine Ac (λhc=>?_)<|λhc=>?_
 .have hc:=Ar hc;let⟨hi,lo,m1,m2,m3,m4,m5,m6⟩:=gZ hq<|Fk hv n
  let⟨z,d,a1,a2,a3,a4,a5⟩:=WT (X:=lo) (Y:=c) (c:=0) ⟨m4,m5⟩ h4<| .inl rfl
  let⟨y,b',b1,b2,b3,b4,b5⟩:=pF (X:=p.getD n 0) (Y:=z) (c:=b) (Fk h1 n) ⟨a2,a3⟩ h3;refine A6 (Bh A4)<|A6 m1<|A6 a1<|A6 (Bh A4)<|A6 (Bh A4)<|A6 b1<|A6 (Bh A4)<|A6 (Bh A4)<|A6 B9 ?_
  have ew:wr .u64 (hi+d)=hi+d:=Iv ⟨A4,by unfold BB at*;omega⟩;dsimp only;rw[ew];refine hn _ ⟨KZ h1 _ ⟨b2,b3⟩,by simpa using h2,b4,⟨BY,by dsimp only;unfold BB at*;omega⟩,BY,BY,?_,?_⟩ BY
  .grind
  .simp only[toNat_succ',Cg];rw[F9 u,F9 v,F9,HB<|BK _,J9 A4,<-h7 n (BK _),Je];have k1:q*(AN (v.take n)+Az n*v.getD n 0)=q*AN (v.take n)+Az n*(q*v.getD n 0):=by rw[DU,GI q]
   have k2:Az n*(p.getD n 0)-Az n*(q*v.getD n 0)-Az n*(c+b)=Az n*y-BB*Az n*(hi+d+b'):=AL;rw[k1];omega
 .have hc:=Bg hc;have HJ:n=k+2:=A4;subst HJ;let⟨y,b',b1,b2,b3,b4,b5⟩:=pF (X:=p.getD (k+2) 0) (Y:=c) (c:=b) (Fk h1 _) h4 h3;refine A6 (gA h2)<|A6 (gA h2)<|A6 b1<|A6 (gA h2)<|A6 (gA h2) ?_
  simp only[Cg];have okq:=KZ h1 (k+2) ⟨b2,b3⟩;have hlen:(p.set (k+2) y).length=k+3:=by rw[LH];exact h2
  have eW:AN (p.set (k+2) y)=AN (p.take<|k+2)+Az (k+2)*y:=by
   have:AN ((p.set (k+2) y).take<|k+3)=AN (p.set (k+2) y):=by rw[D5 A4]
   rw[<-this,F9,HB<|BK _,J9 A4]
  have eU2:AN u=AN (u.take<|k+2)+Az (k+2)*p.getD (k+2) 0:=by
   have:AN (u.take<|k+3)=AN u:=by rw[D5 A4]
   rw[<-this,F9,h7 _<|BK _]
  rw[D5 (l:=v) A4] at h8;have main:AN u-q*AN v=AN (p.set (k+2) y)-Az (k+3)*b':=by have k2:Az (k+2)*p.getD (k+2) 0-Az (k+2)*(c+b)=Az (k+2)*y-BB*Az (k+2)*b':=AL;rw[eW,eU2,show k+3=(k+2)+1 from rfl,Je<|k+2];omega
  have bW:=Gc okq;rw[hlen] at bW
  generalize hR:p.set (k+2) y=R at*
  rw[IA,JD] at atJ;rw[ZD,JD] at atK;refine Ac (λhd=>?_)<|λhd=>?_
  .have hd:=Ar hd;have hd:b'=0:=hd;rw[hd,Tt] at main;refine AU ⟨okq,hlen,hq,?_,?_⟩
   .dsimp only;omega
   .dsimp only;omega
  .have hd:=Bg hd;have hd:b'=1:=AL;rw[hd,Ln] at main;have hq1:1<=q:=AL;refine EO (λs:A3 Int×Int×Int=>okW s.1/\s.1.length=k+3/\(s.2.1=0\/s.2.1=1)/\0<=s.2.2/\s.2.2<=(k+2:Nat)/\(∀m,s.2.2.toNat<=m->s.1.getD m 0=R.getD m 0)/\
     AN (s.1.take s.2.2.toNat)+Az s.2.2.toNat*s.2.1=AN (R.take s.2.2.toNat)+AN (v.take s.2.2.toNat))
    (λs:A3 Int×Int×Int=>k+2-s.2.2.toNat) ?_ _ _ ⟨okq,hlen,.inl rfl,BY,BY,λ_ _=>rfl,by simp[AN]⟩ BY
   rintro Nk ⟨t,e,j⟩ ⟨g1,g2,g3,g4,g5,g6,g7⟩ hn3;dsimp only at g1 g2 g3 g4 g5 g6 g7 hn3⊢;obtain⟨m,rfl⟩:=Ez g4;simp only[Cg,MR] at*;refine Ac (λhf=>?_)<|λhf=>?_
   .have hf:=Ar hf;let⟨z,d,a1,a2,a3,a4,a5⟩:=WT (X:=t.getD m 0) (Y:=v.getD m 0) (c:=e) (Fk g1 m) (Fk hv m) g3;refine A6 (Bh A4)<|A6 (Bh A4)<|A6 (Bh A4)<|A6 a1<|A6 (Bh A4)<|A6 (Bh A4)<|A6 B9 ?_
    refine hn3 _ ⟨KZ g1 _ ⟨a2,a3⟩,by simpa using g2,a4,BY,BY,?_,?_⟩ BY
    .grind
    .simp only[toNat_succ',Cg];rw[F9 R,F9 v,F9,HB<|BK _,J9 A4,<-g6 m (BK _),Je];have k2:Az m*t.getD m 0+Az m*v.getD m 0+Az m*e=Az m*z+BB*Az m*d:=AL;omega
   .have hf:=Bg hf;have KS:m=k+2:=A4;subst KS;have hT:=Fk g1<|k+2
    refine A6 (gA g2)<|A6 (gA g2)<|A6 (gA g2)<|A6 (gA g2)<|AU ?_
    have ew:wr .u64 (q-1)=q-1:=Iv ⟨A4,A4⟩;have ew2:wr .u64 (t.getD (k+2) 0+e)=(t.getD (k+2) 0+e)%BB:=wrW _;rw[ew,ew2];have hm0:=Lu (t.getD (k+2) 0+e) (show BB≠0 by unfold BB;omega);have hm1:=LI (t.getD (k+2) 0+e) (show 0<BB by unfold BB;omega);have hdm:=Ob (t.getD (k+2) 0+e) BB;have ht0:(t.getD (k+2) 0+e)/BB=0\/(t.getD (k+2) 0+e)/BB=1:=by unfold BB at*;omega
    generalize hM:(t.getD (k+2) 0+e)%BB=M at*
    generalize hT':(t.getD (k+2) 0+e)/BB=T at*
    have okz:=KZ g1 (k+2) ⟨hm0,hm1⟩;have hlz:(t.set (k+2) M).length=k+3:=by rw[LH];exact g2
    have eZ:AN (t.set (k+2) M)=AN (t.take<|k+2)+Az (k+2)*M:=by
     have:AN ((t.set (k+2) M).take<|k+3)=AN (t.set (k+2) M):=by rw[D5 A4]
     rw[<-this,F9,HB<|BK _,J9 A4]
    have eR:AN R=AN (R.take<|k+2)+Az (k+2)*t.getD (k+2) 0:=by
     have:AN (R.take<|k+3)=AN R:=by rw[D5 A4]
     rw[<-this,F9,g6 _<|BK _]
    rw[D5 (l:=v) A4] at g7;have bZ:=Gc okz;rw[hlz] at bZ;have sum:AN (t.set (k+2) M)+Az (k+3)*T=AN R+AN v:=by have k2:Az (k+2)*t.getD (k+2) 0+Az (k+2)*e=Az (k+2)*M+BB*Az (k+2)*T:=AL;rw[eZ,eR,show k+3=(k+2)+1 from rfl,Je<|k+2];omega
    have hpp:Az (k+2)<=Az (k+3):=fS A4;have hT1:T=1:=AL;rw[hT1,Ln] at sum;refine⟨okz,hlz,⟨BY,BY⟩,?_,?_⟩
    .grind
    .dsimp only;omega
def YL{A B r:Int}(h:A=q*B+r)(h0:0<=r)(h1:r<B):q=A/B/\r=A%B:=by
 have hB:B≠0:=A4;subst h;constructor
 .rw[Int.add_comm,Int.add_mul_ediv_right _ _ hB,Int.ediv_eq_zero_of_lt h0 h1];omega
 .rw[Int.add_comm,Int.add_mul_emod_self_right,U5 h0 h1]
theorem OE(h:n<l.length):l.drop n=l.getD n 0::l.drop (n+1):=by simp_all
def dc(h:n<l.length)(x:Int):(l.set n x).drop n=x::l.drop (n+1):=by rw[OE (by rw[LH];exact h),J9 h,iL A4]
def afQ(hb:okW b)(hbl:b.length=k+2)(hs:s<=63)(h1:BB<=2*(b.getD (k+1) 0*2^s))(h2:b.getD (k+1) 0*2^s<BB)
 (hw:Norm w)(hv:AN w=AN b*2^s):w.length=k+2/\BB<=2*w.getD (k+1) 0/\AN w<Az (k+2)/\Az (k+1)*2^s<=AN w:=by
 have ps:=two_pos s;have hP:=Lk<|k+1
 have IU:AN b=AN (b.take<|k+1)+Az (k+1)*b.getD (k+1) 0:=by
  have:AN (b.take<|k+2)=AN b:=by rw[D5 A4]
  rw[<-this,F9]
 let⟨t0,t1⟩:=Gc<|ME hb<|k+1
 rw[E1,EU A4] at t1;have acU:=yV (s:=s) (lo:=b.getD (k+1) 0*2^s) A4 (Int.mul_emod_left _ _) h2;have hb0:=Fk hb<|k+1
 have hbt:1<=b.getD (k+1) 0:=by
  rcases(show 1<=b.getD (k+1) 0\/b.getD (k+1) 0=0 by omega) with h|h
  .exact h
  .rw[h,Int.zero_mul] at h1;unfold BB at h1;omega
 generalize b.getD (k+1) 0=t at*
 generalize AN (b.take<|k+1)=L at*
 have e:AN w=L*2^s+Az (k+1)*(t*2^s):=by rw[hv,IU,IA,FG]
 have hL0:0<=L*2^s:=LF t0<|ET ps
 have hL1:L*2^s<Az (k+1)*2^s:=Int.mul_lt_mul_of_pos_right t1 ps;have hg2:=Eu acU<|ET hP
 rw[DU] at hg2;have e3:Az (k+2)=Az (k+1)*BB:=by rw[Je<|k+1,FB]
 have hlt:AN w<Az (k+2):=by rw[e,e3];omega
 have X5:Az (k+1)*2^s<=AN w:=by
  have h3:Az (k+1)*(1*2^s)<=Az (k+1)*(t*2^s):=Eu (Mz hbt<|ET ps)<|ET hP
  rw[JD] at h3;omega
 have aqf:w.length<=k+2:=hw.len hlt;have UX:k+1<w.length:=by
  rcases Hj (k+1) w.length with h|h
  .exact h
  .have h5:=(Gc hw.1).2;have h6:=fS h;have h7:Az (k+1)*1<=Az (k+1)*2^s:=Eu A4<|ET hP
   omega
 refine⟨A4,?_,hlt,X5⟩;have hlen:w.length=k+2:=A4;have hsw:AN w=AN (w.take<|k+1)+Az (k+1)*w.getD (k+1) 0:=by
  have:AN (w.take<|k+2)=AN w:=by rw[D5 A4]
  rw[<-this,F9]
 let⟨q0,q1⟩:=Gc<|ME hw.1<|k+1
 rw[E1,EU A4] at q1
 generalize w.getD (k+1) 0=z at*
 rcases(show BB<=2*z\/2*(z+1)<=BB by unfold BB;omega) with h|h
 .exact h
 .exfalso;have h8:Az (k+1)*(2*(z+1))<=Az (k+1)*(2*(t*2^s)):=Eu A4<|ET hP
  rw[GI,GI _ 2,DU,Ln] at h8;omega
def alg(h:okW l)(n:Nat):AN (l.take n)<=AN l:=by
 rcases Hj n l.length with h1|h1
 .rw[RZ l n A4];have:=LF (ET<|Lk n) (Gc<|Ro h n).1;omega
 .rw[D5 h1];exact Int.le_refl _
def drop_zero(h:okW l)(hl:n<=l.length)(hv:AN l<Az n):AN (l.drop n)=0:=by
 have h1:=RZ l n hl;have h2:=(Gc<|Ro h n).1;have h3:=(Gc<|ME h n).1;rcases(show AN (l.drop n)=0\/1<=AN (l.drop n) by omega) with h4|h4
 .exact h4
 .have:=Eu h4 (ET<|Lk n);omega
def ah1(hs0:0<s)(hs:s<=63)(hx:0<=x/\x<BB)(hy:0<=y/\y<BB):∃lo:Int,Ma .u64 y ((64-s:Nat):Int)=some lo/\0<=GW .or .u64 (x/2^s) lo/\GW .or .u64 (x/2^s) lo<BB/\GW .or .u64 (x/2^s) lo*2^s=x-x%2^s+BB*(y%2^s):=by
 have h2:=dR (s:=s) A4;have p1:=two_pos s;have p2:=two_pos<|64-s
 have r0:=Lu y (show(2:Int)^s≠0 by omega);have r1:=LI y p1;have elo:y*2^(64-s)%BB=2^(64-s)*(y%2^s):=by rw[<-h2,FB y,FB<|2^s,Int.mul_emod_mul_of_pos _ _ p2]
 refine⟨2^(64-s)*(y%2^s),by rw[jm A4,elo],?_⟩;have l0:0<=2^(64-s)*(y%2^s):=LF (ET p2) r0;have d0:0<=x/2^s:=LG hx.1<|ET p1
 have d1:x/2^s<2^(64-s):=by refine Zb p1 ?_;rw[FB,h2];exact hx.2
 have hl:2^(64-s)*(y%2^s)+2^(64-s)<=BB:=by
  have:=Eu (show y%2^s+1<=2^s by omega)<|ET p2
  rw[DU,Ln,FB _<|2^s,h2] at this;exact this
 rw[z7 (s:=64-s) l0 d0 d1 (Int.mul_emod_right _ _) A4];refine⟨A4,A4,?_⟩;have e:=Ob x<|2^s
 rw[IA,Int.mul_right_comm,FB<|2^(64-s),h2,FB<|x/2^s];omega
def wF(ha:Norm a)(hb:Norm b)(h0:b≠[])(hla:a.length<2199023255552)(hlb:b.length<2199023255552):Yd (λr=>(Norm r.1/\AN r.1=AN a/AN b)/\Norm r.2/\AN r.2=AN a%AN b) (YA a b):=by
 unfold YA;have hbl:0<b.length:=by cases b;exact absurd rfl h0;simp
 have ha0:=(Gc ha.1).1;refine Ap (tR ha hb A4 A4) λc hc=>?_
 refine Ac (λhlt=>?_)<|λhlt=>?_
 .have hlt:=Ar hlt;have hv:AN a<AN b:=by rcases hc with h|h|h<;>omega
  exact AU ⟨⟨Norm.nil,by rw[Int.ediv_eq_zero_of_lt ha0 hv];rfl⟩,ha,by rw[U5 ha0 hv]⟩
 have hlt:=Bg hlt;have hv:AN b<=AN a:=by rcases hc with h|h|h<;>omega
 have avZ:b.length<=a.length:=by
  rcases Hj a.length b.length with h|h
  .have:=YM ha.1 hb h;omega
  .exact h
 refine Ac (λh1=>?_)<|λh1=>?_
 ·
  have h1:=Ar h1;have hl1:b.length=1:=A4;obtain⟨y,rfl⟩:∃y,b=[y]:=by
   cases b with
   |nil=>cases hl1
   |cons x t=>cases t with|nil=>exact⟨x,rfl⟩|cons _ _=>simp at hl1
  have hy:0<y/\y<BB:=by
   have:=PJ.1 hb.1;have h2:y≠0:=λe=>hb.2 (by rw[e];rfl)
   omega
  have eV:AN [y]=y:=by simp[AN]
  rw[eV] at hv⊢;refine A6 (Pt A4 A4 A4)<|A6 B9 ?_
  refine EO (λs:A3 Int×Int×Int=>okW s.1/\s.1.length=a.length/\(0<=s.2.1/\s.2.1<y)/\ -1<=s.2.2/\s.2.2<a.length/\AN (a.drop (s.2.2+1).toNat)=AN (s.1.drop (s.2.2+1).toNat)*y+s.2.1)
   (λs:A3 Int×Int×Int=>(s.2.2+1).toNat) ?_ _ _ ⟨VD _,by simp only[Nd];omega,⟨BY,BY⟩,BY,BY,?_⟩ BY
  rotate_left
  .have:((a.length:Int)-1+1).toNat=a.length:=A4;dsimp only;rw[this,S8,Mx AX];simp[AN]
  rintro next ⟨o,r,i⟩ ⟨g1,g2,g3,g4,g5,g6⟩ hn
  dsimp only at g1 g2 g3 g4 g5 g6 hn⊢;refine Ac (λhp=>?_)<|λhp=>?_
  .have hp:=Ar hp;obtain⟨n,rfl⟩:=Ez hp;simp only[toNat_succ',Cg,MR] at*;refine A6 (Bh A4)<|A6 (show AB [y] 0=some y from rfl) ?_
   refine Ap (xh g3 (Fk ha.1 n) hy.2) ?_;rintro⟨q,z⟩ ⟨d1,d2,d3⟩;dsimp only at d1 d2 d3⊢;refine A6 (Bh A4)<|A6 (Bh A4)<|A6 B9 ?_
   refine hn _ ⟨KZ g1 _ d1,by simpa using g2,d2,BY,BY,?_⟩ BY;have e:(((n:Nat):Int)-1+1).toNat=n:=A4;simp only[e];rw[OE A4,dc A4,NM,NM,g6,IA,DU,FG,FB BB r];omega
  .have hp:=Bg hp;have hi:i= -1:=A4;subst hi;have g6:AN a=AN o*y+r:=g6;refine Ap (Rq g1 A4) λw ⟨w1,w2,_⟩=>?_
   refine Ap (Rq (a:=[r]) (PJ.2 ⟨⟨g3.1,A4⟩,Z7⟩) AX) λz ⟨z1,z2,_⟩=>?_
   have er:AN [r]=r:=by simp[AN]
   let⟨u1,u2⟩:=YL g6 g3.1 g3.2;exact AU ⟨⟨w1,by dsimp only;rw[w2,u1]⟩,z1,by dsimp only;rw[z2,er,u2]⟩
 ·
  have h1:=Bg h1;obtain⟨k,hk⟩:∃k,b.length=k+2:=⟨b.length-2,A4⟩;have hbt:0<b.getD (k+1) 0:=by
   have h3:=(Fk hb.1<|k+1).1;rcases(show 0<b.getD (k+1) 0\/b.getD (k+1) 0=0 by omega) with h|h
   .exact h
   .refine absurd ?_ hb.2;rw[List.getLast?_eq_getElem?,show b.length-1=k+1 from by omega];rw[JH] at h;rw[Gf A4] at h⊢;simpa using h
  let⟨s,l1,l2,l3,l4⟩:=aay hbt (Fk hb.1<|k+1).2;have e1:((b.length:Int)-1)=((k+1:Nat):Int):=A4;rw[e1];refine A6 B9<|A6 (Bh A4)<|A6 l1 ?_
  refine Ap (vV hb.1 l2 A4) λw0 ⟨p1,p2,p3⟩=>?_
  refine Ap (Rq p1 A4) λv ⟨v1,v2,_⟩=>?_
  rw[p3] at v2;let⟨v3,v4,v5,v6⟩:=afQ hb.1 hk l2 l3 l4 v1 v2;refine Ap (vV ha.1 l2 A4) λu0 ⟨q1,q2,q3⟩=>?_
  obtain⟨d,hd⟩:∃d,a.length=d+(k+2):=⟨a.length-(k+2),A4⟩;have e2:((a.length:Int)-(v.length:Int))=((d:Nat):Int):=A4;rw[e2,v3];refine A6 B9<|A6 B9<|A6 (Pt A4 A4 A4)<|A6 B9 ?_
  have ps:=two_pos s;have hV0:0<AN v:=by have:=Int.mul_pos (Lk<|k+1) ps;omega
  refine EO (λt:A3 Int×A3 Int×Int=>okW t.1/\t.1.length=a.length+1/\okW t.2.1/\t.2.1.length=d+1/\ -1<=t.2.2/\t.2.2<=d/\AN (t.1.drop (t.2.2+1).toNat)<AN v/\
    AN a*2^s=AN v*(Az (t.2.2+1).toNat*AN (t.2.1.drop (t.2.2+1).toNat))+AN t.1)
   (λt:A3 Int×A3 Int×Int=>(t.2.2+1).toNat) ?_ _ _ ⟨q1,q2,VD _,by simp only[Nd];omega,BY,BY,?_,?_⟩ BY
  rotate_left
  .dsimp only;rw[toNat_succ'];have h3:=RZ u0 (d+1) A4;have h4:=(Gc<|ME q1<|d+1).1;rw[q3] at h3;have h5:=(Gc ha.1).2;have h6:AN a*2^s<Az a.length*2^s:=Int.mul_lt_mul_of_pos_right h5 ps;rw[hd,show d+(k+2)=(d+1)+(k+1) from by omega,gJ,FG] at h6;have h7:AN (u0.drop<|d+1)<Az (k+1)*2^s:=by
    rcases(show AN (u0.drop<|d+1)<Az (k+1)*2^s\/Az (k+1)*2^s<=AN (u0.drop<|d+1) by omega) with h|h
    .exact h
    .have:=Eu h (ET<|Lk<|d+1);omega
   omega
  .dsimp only;rw[toNat_succ',Mx AX,<-q3];simp[AN]
  rintro next ⟨u,o,j⟩ ⟨g1,g2,g3,g4,g5,g6,g7,g8⟩ hn
  dsimp only at g1 g2 g3 g4 g5 g6 g7 g8 hn⊢;refine Ac (λhp=>?_)<|λhp=>?_
  .have hp:=Ar hp;obtain⟨n,rfl⟩:=Ez hp;simp only[toNat_succ',Cg,MR] at*;have e3:(((n:Nat):Int)+((k+2:Nat):Int))=((n+(k+2):Nat):Int):=A4;have e4:(((n+(k+2):Nat):Int)+1)=((n+(k+3):Nat):Int):=A4;have e5:(((n+(k+3):Nat):Int)-((n:Nat):Int)).toNat=k+3:=A4;rw[e3];refine A6 B9 ?_;rw[e4];refine A6 B9<|Yd.gC ?_ ?_
   .rw[B4 (show(0:Int)<=(n:Int) by omega),B4 (show((n:Nat):Int)<((n+(k+3):Nat):Int) by omega),B4 (show((n+(k+3):Nat):Int)<=(u.length:Int) by omega)]
    rfl
   rw[e5];have okd:=Ro g1 n;have hdl:(u.drop n).length=a.length+1-n:=by rw[Ih,g2]
   have hw:((u.drop n).take<|k+3).length=k+3:=by rw[E1];omega
   have hdn:u.drop n=u.getD n 0::u.drop (n+1):=OE A4;have hun:=Fk g1 n;have X5:AN ((u.drop n).take<|k+3)<BB*AN v:=by
    rw[hdn,show k+3=(k+2)+1 from rfl,iM,NM];have h3:=alg (Ro g1<|n+1)<|k+2
    unfold BB at*;omega
   have qu:AN (u.drop<|n+(k+3))=0:=by have:=drop_zero (Ro g1<|n+1) (n:=k+2) (by rw[Ih];omega) A4;rw[FR] at this;rw[show n+(k+3)=n+1+(k+2) from by omega];exact this
   refine Ap (akZ (k:=k) (ME okd _) v1.1 hw v3 A4 v4 X5) ?_;rintro⟨w,q⟩ ⟨s1,s2,s3,s4,s5⟩;dsimp only at s1 s2 s3 s4 s5⊢;refine Yd.gC ?_ ?_
   .rw[s2,show Nat.blt 0 (k+3)=true from Ii A4,show Nat.ble (n+(k+3)) u.length=true from Ii A4,Nat.beq_refl]
    rfl
   refine A6 (Bh A4)<|A6 (Bh A4)<|A6 B9 ?_
   have okt:=ME g1 n;have okz:=Ro g1<|n+(k+3)
   have KP:(u.take n).length=n:=by rw[E1];omega
   have e7:(((n:Nat):Int)-1+1).toNat=n:=A4;have evu:AN u=AN (u.take n)+Az n*AN ((u.drop n).take<|k+3):=by rw[RZ u n A4,RZ (u.drop n) (k+3) A4,FR,qu,Tt,Vy]
   have evn:AN (u.take n++w++u.drop (n+(k+3)))=AN (u.take n)+Az n*AN w:=by rw[VP,VP,qu,Tt,Vy,KP]
   have edn:(u.take n++w++u.drop (n+(k+3))).drop n=w++u.drop (n+(k+3)):=by rw[HY,NX,Mx A4,KP];simp
   refine hn _ ⟨wE.2 ⟨wE.2 ⟨okt,s1⟩,okz⟩,?_,KZ g3 _ s3,by simpa using g4,BY,BY,?_,?_⟩ BY
   .dsimp only;rw[E7,E7,KP,s2,Ih,g2];omega
   .dsimp only;rw[e7,edn,VP,qu,Tt,Vy];exact s5
   .dsimp only;rw[e7,evn,dc A4,NM,g8,evu,s4,Je];have k1:AN v*(Az n*(q+BB*AN (o.drop<|n+1)))=Az n*(q*AN v)+AN v*(BB*Az n*AN (o.drop<|n+1)):=by rw[DU,DU,GI<|AN v,FB (AN v) q,GI (Az n) BB,FG BB]
    rw[k1,DU];omega
  .have hp:=Bg hp;have hj:j= -1:=A4;subst hj;have g7:AN u<AN v:=g7;have g8:AN a*2^s=AN v*(Az 0*AN o)+AN u:=g8;rw[Yk,JD] at g8;have hu0:0<=AN u:=(Gc g1).1;have hue:AN u=2^s*(AN a-AN b*AN o):=by rw[Tq,FB _<|AN a,g8,v2,FB<|AN b,FG];omega
   have aqv:∃c:Int,BB=2^s*c:=⟨_,(dR (s:=s) A4).symm⟩;have atB:u.getD 0 0%2^s=0:=by
    let⟨c,hc⟩:=aqv;have h3:u=u.getD 0 0::u.drop 1:=OE (n:=0) (l:=u) A4;have h4:AN u=u.getD 0 0+BB*AN (u.drop 1):=by rw[<-NM,<-h3]
    have h5:u.getD 0 0=2^s*(AN a-AN b*AN o-c*AN (u.drop 1)):=by rw[Tq,<-hue,<-FG,<-hc];omega
    rw[h5,Int.mul_emod_right]
   refine EO (λt:A3 Int×Int=>okW t.1/\t.1.length=a.length+1/\0<=t.2/\t.2<=(k+2:Nat)/\(∀m,t.2.toNat<=m->t.1.getD m 0=u.getD m 0)/\
     AN (t.1.take t.2.toNat)*2^s=AN (u.take t.2.toNat)+Az t.2.toNat*(u.getD t.2.toNat 0%2^s))
    (λt:A3 Int×Int=>k+2-t.2.toNat) ?_ _ _ ⟨g1,g2,BY,BY,λ_ _=>rfl,?_⟩ BY
   rotate_left
   .show AN (u.take 0)*2^s=AN (u.take 0)+Az 0*(u.getD 0 0%2^s);rw[atB];simp[AN]
   rintro Fp ⟨r,i⟩ ⟨f1,f2,f3,f4,f5,f6⟩ IW;dsimp only at f1 f2 f3 f4 f5 f6 IW⊢;obtain⟨m,rfl⟩:=Ez f3;simp only[Cg,MR] at*;refine Ac (λhf=>?_)<|λhf=>?_
   .have hf:=Ar hf;refine DI (λz:A3 Int=>okW z/\z.length=a.length+1/\(∀x,m+1<=x->z.getD x 0=u.getD x 0)/\AN (z.take<|m+1)*2^s=AN (u.take<|m+1)+Az (m+1)*(u.getD (m+1) 0%2^s)) ?_ ?_
    .rintro z ⟨z1,z2,z3,z4⟩;refine A6 B9<|IW _ ⟨z1,z2,BY,BY,?_⟩ BY
     dsimp only;rw[toNat_succ'];exact⟨z3,z4⟩
    .intro k69 acR;have hx:=Fk f1 m;have hx2:=Fk f1<|m+1
     have GN:0<=r.getD m 0/2^s/\r.getD m 0/2^s<BB:=⟨LG hx.1<|ET ps,Int.lt_of_le_of_lt (S7 _ hx.1) hx.2⟩;refine A6 (Bh A4)<|A6 (Bh A4)<|A6 (jl A4)<|A6 (Bh A4)<|A6 (Bh A4) ?_
     have e8:(((m:Nat):Int)+1)=((m+1:Nat):Int):=A4;have KD:∀z:Int,z*2^s=r.getD m 0-r.getD m 0%2^s+BB*(r.getD (m+1) 0%2^s)->(AN (r.take m)+Az m*z)*2^s=AN (u.take<|m+1)+Az (m+1)*(u.getD (m+1) 0%2^s):=by intro z hz;rw[<-f5 (m+1) A4,F9 u,<-f5 m (BK _),IA,f6,FG,hz,<-f5 m (BK _),Je,DU,Tq,GI (Az m) BB,FG BB];omega
     refine GJ (λhg=>?_)<|λhg=>?_
     .have hg:=Ar hg;refine⟨_,EW ⟨A4,A4⟩,Ac (λhh=>?_)<|λhh=>?_⟩
      .let⟨lo,b1,b2,b3,b4⟩:=ah1 (s:=s) (x:=r.getD m 0) (y:=r.getD (m+1) 0) A4 l2 hx hx2;have Mb:(r.set m<|r.getD m 0/2^s).length=a.length+1:=by rw[LH];exact f2
       have e9:((64:Int)-(s:Int))=((64-s:Nat):Int):=A4;rw[e8,e9];refine A6 (Bh A4)<|A6 (Bh A4)<|A6 B9<|A6 (Bh A4)<|A6 (Bh A4)<|A6 B9 ?_
       rw[getD_set_ne (show m+1≠m by omega),J9 (show m<r.length by omega)];refine A6 b1<|A6 (Bh A4)<|A6 (Bh A4) ?_
       refine acR _ ⟨KZ (KZ f1 _ GN) _ ⟨b2,b3⟩,by simpa using f2,?_,?_⟩
       .intro x hxm;rw[getD_set_ne A4,getD_set_ne A4];exact f5 x A4
       .rw[F9,HB<|BK _,J9 A4,HB<|BK _];exact KD _ b4
      .rw[B4 hg,Lq] at hh;have:=Bg hh;simp only[LH] at this;omega
     .have hg:=Bg hg;have hs0:s=0:=A4;subst hs0;refine Ac (λhh=>?_)<|λhh=>?_
      .exact absurd (Ar (EA hh).1) hg
      .refine acR _ ⟨KZ f1 _ GN,by simpa using f2,?_,?_⟩
       .intro x hxm;rw[getD_set_ne A4];exact f5 x A4
       .rw[F9,HB<|BK _,J9 A4];refine KD _ ?_;simp[Int.emod_one]
   .have hf:=Bg hf;have KS:m=k+2:=A4;subst KS;have hz:=drop_zero g1 (n:=k+2) A4 A4;have hz2:u.getD (k+2) 0=0:=aeQ hz g1<|BK _
    have hu:AN u=AN (u.take<|k+2):=by rw[RZ u (k+2) A4,hz];omega
    rw[hz2,Int.zero_emod,Tt,Vy,<-hu,hue,FB] at f6;have f7:AN (r.take<|k+2)=AN a-AN b*AN o:=Int.eq_of_mul_eq_mul_left A4 f6;have f8:AN (r.take<|k+2)<AN b:=by
     have h3:2^s*(AN a-AN b*AN o)<2^s*AN b:=by rw[<-hue,FB,<-v2];exact g7
     rw[f7];exact iV h3<|ET ps
    refine Ap (Rq g3 A4) λx ⟨x1,x2,_⟩=>?_
    refine A6 (E5 A4 A4 A4) ?_;refine Ap (Rq (Ro (ME f1 _) _) (by rw[Ih,E1];omega)) λz ⟨z1,z2,_⟩=>?_
    have z3:AN z=AN (r.take<|k+2):=z2;let⟨w1,w2⟩:=YL (A:=AN a) (B:=AN b) (q:=AN o) (r:=AN<|r.take<|k+2) (by rw[f7,FB];omega) (Gc<|ME f1 _).1 f8;exact AU ⟨⟨x1,by dsimp only;rw[x2];exact w1⟩,z1,by dsimp only;rw[z3];exact w2⟩
theorem pn(h:2^k<=n):k<=Nat.log2 n:=by have h0:n≠0:=AL;exact(Nat.le_log2 h0).2 h
def pR:∀n:Nat,Az n=((2^(64*n):Nat):Int)
 |0=>rfl
 |n+1=>by rw[Je,pR n,show 64*(n+1)=64+64*n from by omega,Mp,S6];rfl
theorem Ci.len(h:Ci r z)(hz:D9 z=true):r.2.length<1099511627776:=by
 rcases h with⟨h,_⟩|⟨h0,h1,h2,h3,h4,h5⟩
 .rw[h];simp
 .have hl:=TW h2 h0 h3;have hz:=FT hz;have e:(z.natAbs:Int)=AN r.2:=AL;rw[pR,<-e] at hl;have hl:2^(64*(r.2.length-1))<=z.natAbs:=AL;have:=pn hl;omega
def oS{n:Int}(h:Cb n):VX n=some (n.natAbs:Int):=by
 unfold Cb at h;unfold VX;by_cases h0:n<0
 .rw[B4 h0];show some (wr .u64<|wr .i64<|0-n)=_;by_cases h1:n= -9223372036854775808
  .subst h1;rfl
  .have e1:wr .i64 (0-n)=0-n:=wrap_i64 ⟨A4,A4⟩;have e2:wr .u64 (0-n)=0-n:=wrap_u64 ⟨A4,A4⟩;rw[e1,e2]
   congr 1;omega
 .rw[Bo h0];show some (wr .u64 n)=_;have e2:wr .u64 n=n:=wrap_u64 ⟨A4,A4⟩;rw[e2]
  congr 1;omega
theorem QH(h:Ci r z):Yd (λp=>p.1=decide (z<0)/\Norm p.2/\AN p.2=(z.natAbs:Int)/\p.2.length<=r.2.length+1) (NF r):=by
 unfold NF;rcases h with⟨h1,h2,h3⟩|⟨h0,h1,h2,h3,h4,h5⟩
 .rw[h1];refine Ac (λhc=>by simp at hc)<|λ_=>?_
  rw[h2];refine Ac (λhc=>?_)<|λhc=>?_
  .have hc:=Ar hc;subst hc;exact AU ⟨rfl,Norm.nil,rfl,AX⟩
  .have hc:=Bg hc;refine A6 (oS h3) (AU ⟨rfl,⟨?_,?_⟩,by simp[AN],AX⟩)
   .rw[PJ];unfold Cb at h3;exact⟨⟨A4,by unfold BB;omega⟩,Z7⟩
   .simp;omega
 .have hv:=(Gc h2).1;refine Ac (λ_=>AU ⟨?_,⟨h2,h3⟩,?_,by dsimp;omega⟩)<|λhc=>?_
  .grind
  .grind
  .grind
def Th(h:Norm w)(neg:Bool):Yd (λr=>Ci r<|bif neg then -AN w else AN w) (PE neg w):=by
 unfold PE;let⟨hw,hl⟩:=h
 match w,hw,hl with
 |[],_,_=>refine Ac (λ_=>AU (.inl ⟨rfl,by cases neg<;>rfl,by cases neg<;>(unfold Cb;simp[AN])⟩)) (λhc=>by simp at hc)
 |[x],hw,hl=>
  rw[PJ] at hw;let⟨⟨hx0,hx1⟩,_⟩:=hw;have ev:AN [x]=x:=by simp[AN]
  have hx:x≠0:=λe=>hl (by rw[e];rfl)
  have g0:AB [x] (0:Int)=some x:=rfl;rw[ev];refine Ac (λhc=>by simp at hc)<|λ_=>?_
  refine GJ (λ_=>⟨x,g0,?_⟩) (λhc=>by simp[gd] at hc);refine Ac (λhc=>?_)<|λhc=>?_
  .let⟨hc,Iq⟩:=EA hc;let⟨_,hc⟩:=EA hc;have hc:=Ar hc;subst Iq;have e1:wr .i64 x=x:=wrap_i64 ⟨A4,A4⟩;exact A6 g0 (A6 (EW (by rw[e1];exact⟨A4,A4⟩)) (AU (.inl ⟨rfl,by rw[e1];rfl,by unfold Cb;simp[BI];omega⟩)))
  .refine GJ (λ_=>⟨x,g0,?_⟩) (λhc=>by simp[gd] at hc);refine Ac (λhd=>?_)<|λhd=>?_
   .let⟨_,hd'⟩:=EA hd;have avc:=Ar hd';rw[hd] at hc;have Iq:neg=false:=by simpa using hc
    subst Iq;have e1:wr .i64 x=x:=wrap_i64 ⟨A4,A4⟩;exact A6 g0 (AU (.inl ⟨rfl,by rw[e1];rfl,by unfold Cb;simp[As];omega⟩))
   .have NA:9223372036854775807<x:=by have:decide (([x].length:Int)=(1:Int))=true:=rfl;rw[this,Lq] at hd;have:=Bg hd;omega
    have Aw:okW [x]:=by rw[PJ];exact⟨⟨hx0,hx1⟩,Z7⟩
    refine Ac (λhn=>?_)<|λhn=>?_
    .subst hn;exact Yd.gC rfl (AU (.inr ⟨AX,.inr rfl,Aw,hl,by rw[ev];simp,by rw[ev];exact NA⟩))
    .subst hn;exact Yd.gC rfl (AU (.inr ⟨AX,.inl rfl,Aw,hl,by rw[ev];simp,by rw[ev];exact NA⟩))
 |x::y::l,hw,hl=>
  have NA:9223372036854775807<AN (x::y::l):=by have h1:=TW hw AX hl;have h2:Az 1<=Az ((x::y::l).length-1):=fS AX;have h3:Az 1=BB:=rfl;unfold BB at h3;omega
  have hn1:decide (((x::y::l).length:Int)=(1:Int))=false:=Bo DD;refine Ac (λhc=>by have:=Ar hc;simp at this;omega)<|λ_=>?_
  refine GJ (λhc=>by simp only[gd] at hc;rw[hn1] at hc;cases hc)<|λ_=>?_
  refine Ac (λhc=>by rw[hn1] at hc;simp at hc)<|λ_=>?_
  refine GJ (λhc=>by simp only[gd] at hc;rw[hn1] at hc;cases hc)<|λ_=>?_
  refine Ac (λhc=>by rw[hn1] at hc;simp at hc)<|λ_=>?_
  refine Ac (λhn=>?_)<|λhn=>?_
  .subst hn;exact Yd.gC rfl<|AU<| .inr ⟨AX,.inr rfl,hw,hl,AX,NA⟩
  .subst hn;exact Yd.gC rfl<|AU<| .inr ⟨AX,.inl rfl,hw,hl,AX,NA⟩
theorem Vo(h:Ci r z):Q8 r=some z.sign:=by
 unfold Q8
 congr 1
 unfold mx_ mn_;rcases h with⟨h1,h2,h3⟩|⟨h0,h1,h2,h3,h4,h5⟩
 .grind
 .grind
theorem Rx(h:Ci r z):Yd (λq=>Ci q<| -z) (O9 r):=by
 unfold O9;refine Ac (λhc=>?_)<|λhc=>?_
 .let⟨h1,h2⟩:=EA hc;rw[G5,Ij] at h2;rcases h with⟨g1,g2,g3⟩|⟨h0,_⟩
  .unfold Cb at g3;exact A6 B9 (AU (.inl ⟨rfl,by dsimp;omega,by unfold Cb;omega⟩))
  .grind
 .refine Ap (QH h) λp ⟨p1,p2,p3,_⟩=>Ap (Th p2<| !p.1) λq hq=>AU ?_
  rw[p1,p3] at hq;by_cases hz:z<0
  .grind
  .grind
theorem pd(h:Ci r z):Yd (λq=>Ci q (z.natAbs:Int)) (Y1 r):=by
 unfold Y1;have hs:r.1<0↔z<0:=by
  rcases h with⟨g1,g2,g3⟩|⟨h0,h1,h2,h3,h4,h5⟩
  .rw[g2]
  .grind
 refine Ac (λhc=>?_)<|λhc=>?_
 .have hc:=hs.1 (Ar hc);refine Ap (Rx h) λq hq=>AU ?_
  rwa [show((z.natAbs:Nat):Int)= -z by omega]
 .have hc:=Bg hc;have: ¬z<0:=λh=>hc<|hs.2 h
  refine AU ?_;rwa [show((z.natAbs:Nat):Int)=z by omega]
theorem gY{s:Int×A3 Int}(hr:Ci r x)(hs:Ci s y)(hlr:r.2.length<2199023255552)(hls:s.2.length<2199023255552):Yd (λq=>Ci q<|x+y) (TJ r s):=by
 unfold TJ;refine DI (λ_=>True) (λ_ _=>?_)<|λk hk=>Ac (λhc=>?_)<|λ_=>hk _ trivial
 .refine Ap (QH hr) λp ⟨p1,p2,p3,p4⟩=>Ap (QH hs) λq ⟨q1,q2,q3,q4⟩=>?_
  refine Ac (λhc=>?_)<|λhc=>?_
  .refine Ap (afP p2.1 q2.1 A4 A4) λw ⟨w1,w2⟩=>Ap (Th w1 p.1) λz hz=>AU ?_
   rw[w2,p3,q3,p1] at hz;rw[p1,q1,QU] at hc;by_cases h1:x<0
   .grind
   .grind
  .have hne: ¬(x<0↔y<0):=by intro h;rw[p1,q1] at hc;simp[h] at hc
   refine Ap (tR p2 q2 A4 A4) λc hcmp=>Ac (λhd=>?_)<|λhd=>?_
   .have hd:=Ar hd;have hle:AN q.2<=AN p.2:=A4;have hlen:q.2.length<=p.2.length:=by
     rcases Hj p.2.length q.2.length with h|h
     .have:=YM p2.1 q2 h;omega
     .exact h
    refine Ap (vA p2.1 q2.1 hlen A4 hle) λw ⟨w1,w2⟩=>Ap (Th w1 p.1) λz hz=>AU ?_
    rw[w2,p3,q3,p1] at hz;by_cases h1:x<0
    .grind
    .grind
   .have hd:=Bg hd;have hle:AN p.2<=AN q.2:=A4;have hlen:p.2.length<=q.2.length:=by
     rcases Hj q.2.length p.2.length with h|h
     .have:=YM q2.1 p2 h;omega
     .exact h
    refine Ap (vA q2.1 p2.1 hlen A4 hle) λw ⟨w1,w2⟩=>Ap (Th w1 q.1) λz hz=>AU ?_
    rw[w2,p3,q3,q1] at hz;by_cases h1:y<0
    .grind
    .grind
 .let⟨h1,h2⟩:=EA hc;rw[W9] at h1 h2;rcases hr with⟨_,e1,i1⟩|⟨h0,_⟩
  .rcases hs with⟨_,e2,i2⟩|⟨h0,_⟩
   .rw[e1,e2];unfold Cb at i1 i2;refine Ac (λhd=>AU<| .inl ⟨rfl,?_,?_⟩)<|λ_=>hk _ trivial
    all_goals
     by_cases kE: -9223372036854775808<=x+y/\x+y<=9223372036854775807
     .first
      |exact wrap_i64 kE|exact kE
     .exfalso;rw[QU] at hd;rcases Int.lt_or_lt_of_ne (show x+y≠0 by omega) with hlt|hgt
      .have e3:wr .i64 (x+y)=x+y+18446744073709551616:=by
        have:wr .i64 (x+y)=wr .i64 (x+y+18446744073709551616):=by unfold wr IntKind.wrap;simp[IntKind.bits,IntKind.signed]
        rw[this];exact wrap_i64 ⟨A4,A4⟩
       rw[e3] at hd;have a1:x<x+y+18446744073709551616:=A4;have a2: ¬0<y:=A4;simp[a1,a2] at hd
      .have e3:wr .i64 (x+y)=x+y-18446744073709551616:=by
        have:wr .i64 (x+y)=wr .i64 (x+y-18446744073709551616):=by unfold wr IntKind.wrap;simp[IntKind.bits,IntKind.signed]
        rw[this];exact wrap_i64 ⟨A4,A4⟩
       rw[e3] at hd;have a1: ¬x<x+y-18446744073709551616:=A4;have a2:0<y:=A4;simp[a1,a2] at hd
   .grind
  .grind
theorem pE(z:Int):D9 (-z)=D9 z:=by grind [D9]
def WU(h:x.natAbs<=y.natAbs)(hy:D9 y=true):D9 x=true:=by
 unfold D9 at*;refine Ii ?_;have:=FT hy;by_cases h0:x.natAbs=0
 .rw[h0];decide
 .have h1:Nat.log2 x.natAbs<=Nat.log2 y.natAbs:=(Nat.le_log2 A4).2 (Ct ((Nat.le_log2 h0).1<|BK _) h);omega
def zh{s:Int×A3 Int}(hr:Ci r x)(hs:Ci s y)(hx:D9 x=true)(hy:D9 y=true):Yd (λq=>Ci q<|x-y) (Xy r s):=by
 unfold Xy;refine Ap (Rx hs) λn hn=>Ap (gY hr hn (by have:=hr.len hx;omega) (by have:=hn.len (by rw[pE];exact hy);omega)) λq hq=>AU ?_
 rwa [Int.sub_eq_add_neg]
theorem zj{s:Int×A3 Int}(hr:Ci r x)(hs:Ci s y)(hx:D9 x=true)(hy:D9 y=true):Yd (λq=>Ci q<|x*y) (TH r s):=by
 have sgn:∀(b:Bool),b=(!(decide (x<0)==decide (y<0)))->(bif b then -((x.natAbs:Int)*(y.natAbs:Int)) else(x.natAbs:Int)*(y.natAbs:Int))=x*y:=AL;unfold TH;refine DI (λ_=>True) (λ_ _=>?_)<|λk hk=>Ac (λhc=>?_)<|λ_=>hk _ trivial
 .refine Ap (QH hr) λp ⟨p1,p2,p3,p4⟩=>Ap (QH hs) λq ⟨q1,q2,q3,q4⟩=>?_
  have l1:=hr.len hx;have l2:=hs.len hy;refine Ap (afO p2.1 q2.1 A4 A4) λw ⟨w1,w2⟩=>Ap (Th w1<| !(p.1==q.1)) λz hz=>AU ?_
  rw[w2,p3,q3,sgn _ (by rw[p1,q1])] at hz;exact hz
 .let⟨h1,h2⟩:=EA hc;rw[W9] at h1 h2;rcases hr with⟨_,e1,i1⟩|⟨h0,_⟩
  .rcases hs with⟨_,e2,i2⟩|⟨h0,_⟩
   .rw[e1,e2];unfold Cb at i1 i2;have bx:(0:Int)<=(x.natAbs:Int)/\(x.natAbs:Int)<BB:=⟨A4,by unfold BB;omega⟩;have by':(0:Int)<=(y.natAbs:Int)/\(y.natAbs:Int)<BB:=⟨A4,by unfold BB;omega⟩;let⟨hi,lo,m1,m2,m3,m4,m5,m6⟩:=gZ bx by';refine A6 (oS i1)<|A6 (oS i2)<|A6 m1<|Ac (λhd=>?_)<|λ_=>hk _ trivial
    let⟨d1,d2⟩:=EA hd;have d1:=Ar d1;have d2:=Ar d2;have e3:wr .i64 lo=lo:=wrap_i64 ⟨A4,A4⟩;have d1:hi=0:=d1;have hp:(x.natAbs:Int)*(y.natAbs:Int)=lo:=by rw[m6,d1];omega
    have s2:=sgn _ rfl;rw[hp] at s2;refine Ac (λhn=>?_)<|λhn=>?_
    .rw[hn] at s2;simp[BI] at s2;rw[e3];exact A6 B9 (AU (.inl ⟨rfl,s2,by unfold Cb;omega⟩))
    .rw[hn] at s2;simp[As] at s2;rw[e3];exact AU (.inl ⟨rfl,s2,by unfold Cb;omega⟩)
   .grind
  .grind
theorem amP{s:Int×A3 Int}(hr:Ci r x)(hs:Ci s y)(hx:D9 x=true)(hy:D9 y=true):mB r s=some (Um x y):=by
 refine Fz ?_;unfold mB;refine Ac (λhc=>?_)<|λ_=>Ap (zh hr hs hx hy) λq hq=>A6 (Vo hq)<|AU ?_
 .let⟨h1,h2⟩:=EA hc;rw[W9] at h1 h2;rcases hr with⟨_,e1,i1⟩|⟨h0,_⟩
  .rcases hs with⟨_,e2,i2⟩|⟨h0,_⟩
   .rw[e1,e2];unfold Um;refine Ac (λh=>AU (by rw[h];rfl)) (λh=>Ac (λk=>AU (by rw[h,k];rfl)) (λk=>AU (by rw[h,k];rfl)))
   .grind
  .grind
 .unfold Um;rcases WB x y with h|h|h
  .grind
  .grind
  .grind
theorem aiz(h:Ci r z)(hz:z≠ -9223372036854775808):cc r=some (bif Hb z then(z,true) else(z.sign,false)):=by
 unfold cc
 congr 1
 rcases h with⟨h1,h2,h3⟩|⟨h0,h1,h2,h3,h4,h5⟩
 .unfold Cb at h3;have:Hb z=true:=by unfold Hb;rw[B4 h3.1,B4 h3.2];rfl
  rw[this,h1,h2];rfl
 .have:Hb z=false:=by
   unfold Hb;rcases h1 with e|e
   .grind
   .grind
  rw[this];have hs:r.1=z.sign:=AL;have he:r.2.isEmpty=false:=AL;rw[hs,he];rfl
def pQ{r:Int}(h0:0<y)(h:r+y*q=x)(h1:0<=r)(h2:r<y):q=x/y/\r=x%y:=by let⟨h3,h4⟩:=(Int.ediv_emod_unique h0).2 ⟨h,h1,h2⟩;exact⟨h3.symm,h4.symm⟩
def wM(h0:0<y):(0<=x->0<=x/y/\x/y<=x)/\(x<0->x<=x/y/\x/y<0):=by
 constructor
 .intro h;exact⟨LG h A4,S7 y h⟩
 .intro h;refine⟨(Int.le_ediv_iff_mul_le h0).2 ?_,Int.ediv_neg_of_neg_of_pos h h0⟩;have:x*y<=x*1:=Int.mul_le_mul_of_nonpos_left A4 A4;omega
end
end Trn
