/- Part of SolidPlaces. -/
import Derived.Test.YtmjkpiakobnkgaaGreatDoorFa
import Derived.Test.YtmjkpiakobnkgaaGreatDoorMa
import Derived.Test.YtmjkpiakobnkgaaGreatDoorSa
import Derived.Shelf.SlSortCmp.NoneTotal
set_option maxRecDepth 100000
set_option maxHeartbeats 20000000
set_option linter.all false
open Go Go.RowKit Go.Proofs Go.Proofs.Tryz
namespace Trn
section
open Go.Shelf
variable[D:DR]
variable{k:Nat}{xs:A3 AW}
def chunk(k:Nat)(xs:A3 AW)(i:Nat):A3 AW:=(xs.drop<|i*k).take k
theorem Rl{n:Nat}(h:xs.length=n*k){i:Nat}(hi:i<n):(chunk k xs i).length=k:=by have:(i+1)*k<=n*k:=JA k hi;rw[IX,Iu] at this;simp[chunk];omega
theorem wy{n:Nat}(h:xs.length=n*k){t:Nat}(a:t<n*k):(chunk k xs<|t/k)[t%k]? =xs[t]? :=by
 have b:0<k:=(Jb k).elim (λe=>by subst e;simp at a) id;have c:=M1 t b;unfold chunk;rw[Up,if_pos c,SK]
 congr 1
 rw[Jw];exact Nat.div_add_mod t k
theorem agm{ys:A3 AW}(h:ys.length=k):chunk k (ys++xs) 0=ys:=by simp[chunk,<-h]
theorem agn{ys:A3 AW}(h:ys.length=k)(i:Nat):chunk k (ys++xs) (i+1)=chunk k xs i:=by
 unfold chunk;rw[IX,Iu,N8,<-h,LC];have e:List.drop (ys.length+i*ys.length) ys=[]:=List.drop_eq_nil_of_le A4;rw[e,Fy]
 congr 2;omega
end
section
open Go.Shelf
variable[D:DR]
variable{P:Program}{A:Type}{τ:A->Ty}{k:Nat}{H:HV}
theorem Rg(c:∀a,(τ a).n=k)(d:∀a,(τ a).agg=true):∀{l:A3 A} {xs:A3 AW},Cx H (lT τ l) xs->xs.length=l.length*k/\∀i (hi:i<l.length),(τ l[i]).ok H (.agg (chunk k xs i).toArray)
 |[],xs,h=>by have h:xs=[]:=h;subst h;exact⟨AO,λi hi=>absurd hi<|Nat.not_lt_zero _⟩
 |a::l,xs,h=>by
  let⟨v,rest,e,f,j⟩:=h;have g:=(τ a).shape f;let⟨m,o⟩:=Rg c d j;have b:v.cells.toList.length=k:=by rw[En,g.size,c]
  subst e;refine⟨by simp[DD,b,m,DP];rw[IX];omega,λi hi=>?_⟩;cases i with
  |zero=>rw[agm b];have e:=g.eq;rw[d] at e;have e:v= .agg v.cells:=e;simpa[<-e] using f
  |succ i=>rw[agn b];exact o i (by simpa using hi)
theorem Zq:∀{l:A3 A} {xs:A3 AW},xs.length=l.length*k->(∀i (hi:i<l.length),(τ l[i]).ok H<| .agg (chunk k xs i).toArray)->Cx H (lT τ l) xs
 |[],xs,h,_=>Hk (by simpa using h)
 |a::l,xs,h,hc=>by
  have b:xs.length=k+l.length*k:=by simpa[IX,N8] using h
  have c:=hc 0 AO;have d:chunk k xs 0=xs.take k:=by simp[chunk]
  rw[d] at c;refine⟨_,xs.drop k,?_,c,Zq (by simp[b]) λi hi=>?_⟩
  .simp[Value.cells]
  .have:=hc (i+1) (by simpa using hi);have e:chunk k xs (i+1)=chunk k (xs.drop k) i:=by unfold chunk;rw[Ee,IX,Iu,N8]
   rwa [e] at this
end
section
open Go.Shelf
variable[D:DR]
variable{w:AS}
theorem zw{w':AS}(h: @Ea DR.strict w.heap.size w w'):∃q os,w'=Go.Sort.grow (w.drewN q) os:=by
 refine⟨w'.drawn-w.drawn,w'.heap.extract w.heap.size w'.heap.size,?_⟩;have f:w.drawn+(w'.drawn-w.drawn)=w'.drawn:=by have h:w.drawn<=w'.drawn:=Ea.drawn (D:=DR.strict) h;omega
 have g:w.heap++w'.heap.extract w.heap.size w'.heap.size=w'.heap:=by
  apply Array.ext_getElem?;intro i;rw[eN];have p:=(Ea.toBelow (D:=DR.strict) h).size;split
  .rename_i hi;exact((Ea.toBelow (D:=DR.strict) h).block i hi).symm
  .grind
 let⟨d,e,b,os,a⟩:=w';let⟨j,l,m,n,o⟩:=w;simp only[World.drewN,Go.Sort.grow];simp[World.mk.injEq];have c:=Ea.toBelow (D:=DR.strict) h;exact⟨g.symm,c.tape,f.symm,c.os,c.output⟩
theorem WE{α:Type}[Inhabited α]{enc:α->A3 AW}{k:Nat}{blk off m:Nat}{dk:B9 α}{os:B9 Obj}{r:Nat}(b:r<w.heap.size)(a:r≠blk):(sortWorldK enc k w blk off m dk os).heap[r]? =w.heap[r]? :=by unfold sortWorldK Go.Sort.grow Go.Sort.putRowK Go.Sort.putRow Go.Sort.mapBlock Go.Sort.ahead;simp only[eN,Array.size_modify,b,if_pos,SR];rw[if_neg<|λe=>a e.symm]
theorem jR{α:Type}[Inhabited α]{enc:α->A3 AW}{k:Nat}{blk off m:Nat}{dk:B9 α}{os:B9 Obj}:w.heap.size<=(sortWorldK enc k w blk off m dk os).heap.size:=by unfold sortWorldK Go.Sort.grow Go.Sort.putRowK Go.Sort.putRow Go.Sort.mapBlock Go.Sort.ahead;simp
end
section
open Go.Shelf
variable[D:DR]
variable{P:Program}{A:Type}{τ:A->Ty}{k:Nat}{H:HV}{c:A×A->Option Int}
theorem vV(z:∀a,(τ a).n=k)(B:∀a,(τ a).agg=true){l:A3 A}{xs:A3 AW}{w:AS}{blk off g:Nat}{cap:B9 AW}{q:A3 Ty}(b:Cx H (lT τ l) xs)
  (sub:∀r o,H r=some o->w.heap[r]? =some o)(gl:JD P H)(C:H blk=none)(E:Du H q cap.toList)
  (F:∀a r,c a=some r-> @Dy DR.strict P g ([τ a.1,τ a.2]++q) (.vs [TI .i64 r]))(d:Fin l.length->Fin l.length->Int)(f:∀i j,c (l[i],l[j])=some (d i j))[Inhabited<|Fin l.length]:CmpLays P g cap (λi:Fin l.length=>chunk k xs i) k d blk off l.length w:=by
 intro m os dk G x y;let⟨_,s⟩:=Rg z B b;have I:∀r o,H r=some o->(sortWorldK (λi:Fin l.length=>chunk k xs i) k w blk off m dk os).heap[r]? =some o:=λr o h=>by have t:=sub r o h;rw[WE (lt_of_heap t) (λe=>by rw[e,C] at h;cases h)];exact t
 have u:=Dy.run (D:=DR.strict) (F (l[x],l[y]) _<|f x y) _ H ([Value.agg (chunk k xs x).toArray,Value.agg (chunk k xs y).toArray]++cap.toList) I gl<|X0 ⟨_,_,rfl,s x x.2,_,_,rfl,s y y.2,rfl⟩ E
 have J:([Value.agg (chunk k xs x).toArray,Value.agg (chunk k xs y).toArray]++cap.toList).toArray= #[Value.agg (chunk k xs x).toArray,Value.agg (chunk k xs y).toArray]++cap:=AO;rw[J] at u;refine u.mono ?_;rintro e w' ⟨v,rfl,K,H',_,_,p⟩;have p:v= .int .i64 (d x y):=p;subst p;exact⟨rfl,zw K⟩
end
section
open Go.Shelf
variable[D:DR]
variable{α:Type}{k:Nat}{cur:B9 AW}
theorem mB[Inhabited α]{enc:α->A3 AW}(e:∀x,(enc x).length=k){d:B9 α}{i:Nat}(hi:i<d.size):chunk k (Go.Sort.flatK enc k d).toList i=enc d[i]! :=by
 have h:i*k+k<=d.size*k:=by
  have:=JA k<|show i+1<=d.size from hi
  rwa [IX,Iu] at this
 apply Ul;intro t;unfold chunk;rw[Up];by_cases a:t<k
 .rw[if_pos a,SK,NP];have b:i*k+t<d.size*k:=A4;have f:(i*k+t)/k=i:=by rw[Jw,Nat.mul_add_div A4,Nat.div_eq_of_lt a,SC]
  have g:(i*k+t)%k=t:=by rw[Jw,Nat.mul_add_mod,QK a]
  have j:=e d[i]!;unfold Go.Sort.flatK;rw[Array.getElem?_map,Array.getElem?_range,if_pos b,NC,f,g,Hz (enc d[i]!) t A4,FT A4]
 .grind
theorem uF{n:Nat}{xs:A3 AW}{w:AS}{blk:Nat}{E:Ap}[Inhabited<|Fin n](f:xs.length=n*k)(d:w.heap[blk]? =some (.cells cur E (0,0)))(m:cur.toList.take (n*k)=xs):Go.Sort.HoldsK (λi:Fin n=>chunk k xs i) k w blk 0 (Array.ofFn λi:Fin n=>i):=by
 unfold Go.Sort.HoldsK Go.Sort.Holds;intro j a;rw[Go.Sort.size_flatK,Uf] at a;have g:cur[j]? =xs[j]? :=AK;have o:0<k:=(Jb k).elim (λe=>by subst e;simp at a) id;have hi:j/k<n:=Nat.div_lt_of_lt_mul (by rw[Jw];exact a);refine⟨?_,by simp[World.frozen?,d]⟩;rw[Go.Sort.get_flatK _ _ _ _ (by simpa using a),N9];rw[Y6 d,g];have h:(Array.ofFn λi:Fin n=>i)[j/k]! =⟨j/k,hi⟩:=by rw[Hz (Array.ofFn λi:Fin n=>i) (j/k) (by simpa using hi)];simp
 rw[h];have l:=wy f a;have b:j%k<(chunk k xs<|j/k).length:=AK;show xs[j]? =some (id (chunk k xs<|j/k)[j%k]!);rw[<-l,Hz (chunk k xs<|j/k) (j%k) b,FT b];rfl
theorem rr[Inhabited α]{enc:α->A3 AW}{w:AS}{blk m:Nat}{dk:B9 α}{os:B9 Obj}{E:Ap}{fr:Nat×Nat}(a:w.heap[blk]? =some (.cells cur E fr)):(sortWorldK enc k w blk 0 m dk os).heap[blk]? =some (.cells (Go.Sort.putCells id 0 (Go.Sort.flatK enc k dk) cur) E fr):=by
 unfold sortWorldK Go.Sort.grow Go.Sort.putRowK Go.Sort.putRow Go.Sort.mapBlock Go.Sort.ahead;simp only[eN,Array.size_modify,lt_of_heap a,if_pos,SR,a,NC]
 rfl
theorem tT[Inhabited α]{d:B9 AW}(h:d.size<=cur.size):(Go.Sort.putCells id 0 d cur).toList.take d.size=d.toList:=by
 apply Ul;intro i;rw[Up];split
 .rename_i hi;rw[NP,NP];unfold Go.Sort.putCells;rw[Array.getElem?_mapIdx,eT (by omega:i<cur.size),NC,if_pos ⟨EU _,A4⟩,Nat.sub_zero,eT hi,Hz d i hi];rfl
 .grind
end
section
open Go.Shelf
variable[D:DR]
variable{P:Program}{ρ:Ren}{A:Type}[DecidableEq A]{τ:A->Ty}{k:Nat}{c:A×A->Option Int}
variable{l r:A3 A}
theorem ai3{α:Type}{l:A3 α}{d:B9 (Fin l.length)}(h:d.toList.Perm (Array.ofFn λi:Fin l.length=>i).toList):(d.toList.map λi=>l[i]).Perm l:=by
 have a:=h.map λi:Fin l.length=>l[i]
 have e:(Array.ofFn λi:Fin l.length=>i).toList.map (λi:Fin l.length=>l[i])=l:=by rw[Array.toList_ofFn,List.map_ofFn];exact List.ofFn_getElem
 rwa [e] at a
theorem w9(q:Gk l c=some r)[Inhabited<|Fin l.length]{b:Fin l.length->Fin l.length->Int}(e:∀i j,c (l[i],l[j])=some (b i j)){d:B9 (Fin l.length)}
 (s:Go.Sort.PermIn 0 l.length (Array.ofFn λi:Fin l.length=>i) d)(t:Go.Sort.SortedIn (ltOf b) 0 l.length d):d.size=l.length/\(d.toList.map λi=>l[i])=r:=by
 let⟨g,m,_,_⟩:=Wm q;let⟨f,_,n⟩:=s;rw[Uf] at f;have o:d.extract 0 d.size=d:=Array.extract_size;rw[f] at o;have u:(Array.ofFn λi:Fin l.length=>i).extract 0 l.length=Array.ofFn λi:Fin l.length=>i:=by
  have h:(Array.ofFn λi:Fin l.length=>i).extract 0 (Array.ofFn λi:Fin l.length=>i).size=Array.ofFn λi:Fin l.length=>i:=Array.extract_size
  rwa [Uf] at h
 rw[o,u] at n;have v:=ai3 n;refine⟨f,w8 m (v.trans g.symm) ?_⟩;refine YI.2 λi j hi p x=>?_
 simp[BL,En] at hi p;have a:=t i j (EU _) x A4;rw[Hz d j p,Hz d i hi] at a;simp only[List.getElem_map,Array.getElem_toList];have y: ¬b d[j] d[i]<0:=by simpa[ltOf] using a
 have mem:∀i:Fin l.length,l[i]∈r:=λi=>g.mem_iff.2<|Ja _
 have:=mt (bb m (mem d[j]) (mem d[i])<|e d[j] d[i]).2 y;omega
theorem xL(f:Gk l c=some r){a:Fin l.length->Fin l.length->Int}(b:∀i j,c (l[i],l[j])=some (a i j)):Go.Sort.SWO (ltOf a):=by
 let⟨d,e,_,_⟩:=Wm f;have mem:∀i:Fin l.length,l[i]∈r:=λi=>d.mem_iff.2<|Ja _
 have key:∀i j,ltOf a i j=decide (r.idxOf l[i]<r.idxOf l[j]):=λi j=>by unfold ltOf;exact F5.2<|bb e (mem i) (mem j)<|b i j
 refine⟨λx=>?_,λx y z d e=>?_,λx y z d e=>?_⟩
 .rw[key];simp
 .grind
 .grind
theorem ajH(C:∀a,(τ a).n=k)(F:∀a,(τ a).agg=true){xs:A3 AW}{H:HV}{w:AS}{blk f:Nat}{cur:B9 AW}{E:Ap}{B:Ah P}(sub:∀r o,H r=some o->w.heap[r]? =some o)(G:Cx H (lT τ l) xs)
 (h:∀b,Value.ownBlock (.slice (some ⟨blk,0,none⟩) l.length f)=some b->H b=none/\B.Da b)(p:w.heap[blk]? =some (.cells cur E (0,0)))(q:l.length<=f)(v:f<=maxLen)(s:cur.size=f*k)[Inhabited<|Fin l.length]
 {g:B9 (Fin l.length)}(x:g.size=l.length)(I:(g.toList.map λi=>l[i])=r)(m:Nat)(os:B9 Obj):On (λb=>Value.ownBlock (.slice (some ⟨blk,0,none⟩) l.length f)=some b) w H (sortWorldK (λi:Fin l.length=>chunk k xs i) k w blk 0 m g os) H/\Ih B (sortWorldK (λi:Fin l.length=>chunk k xs i) k w blk 0 m g os) H E k (lT τ r) (.slice (some ⟨blk,0,none⟩) l.length f):=by
 let⟨J,K⟩:=Rg C F G;have t:r.length=l.length:=AK;have L:=rr (enc:=λi:Fin l.length=>chunk k xs i) (k:=k) (m:=m) (dk:=g) (os:=os) p;have j:(Go.Sort.flatK (λi:Fin l.length=>chunk k xs i) k g).size=l.length*k:=by rw[Go.Sort.size_flatK,x]
 have y:l.length*k<=cur.size:=by rw[s];exact JA k q
 have O:=tT (α:=Fin l.length) (d:=Go.Sort.flatK (λi:Fin l.length=>chunk k xs i) k g) (cur:=cur) (by rw[j];exact y);refine⟨Tr.JF (M:=λb=>Value.ownBlock (.slice (some ⟨blk,0,.none⟩) l.length f)=some b) ⟨jR,rfl,rfl,rfl,?_,λi hi z=>WE hi (λe=>z (by rw[e];rfl))⟩ sub λb N=>(h b N).1,⟨(Go.Sort.flatK (λi:Fin l.length=>chunk k xs i) k g).toList,?_,?_,h⟩⟩
 .refine Fe.of ?_;show w.drawn<=(sortWorldK _ k w blk 0 m g os).drawn;unfold sortWorldK Go.Sort.grow Go.Sort.putRowK Go.Sort.putRow Go.Sort.mapBlock Go.Sort.ahead;exact SI _ _
 .have Sw:(lT τ r).length=l.length:=by rw[BL,t]
  rw[Sw];refine⟨by rw[En,j],.inr ⟨blk,f,_,rfl,EU _,L,q,v,?_,?_⟩⟩
  .rw[<-s];simp[Go.Sort.putCells]
  .grind
 .refine Zq (by rw[En,j,t]) λi hi=>?_
  have u:i<g.size:=A4;rw[mB (λi=>Rl J i.2) u];rw[Hz g i u];have e:r[i]=l[g[i]]:=AK;rw[e];exact K _ g[i].2
set_option maxHeartbeats 1000000 in
theorem mP(L:SlLaysF0.n6 P ρ)(aE:∀w,(isAgg<|ρ.t 24).run P w= .ok true w)(zE:∀w,(Go.sizeOf<|ρ.t 24).run P w= .ok k w)(hc:FQ P (ρ.f 6)=true)
 (J:∀a,(τ a).n=k)(K:∀a,(τ a).agg=true)(none:∀(p:A9 Addr) (cap:Nat) (fv:AW) (w:AS),Calls P (ρ.f 6) #[.slice p 0 cap,fv] w λe w'=>e= .returned (.tuple #[])/\w'=w)
 (M:Gk l c=some r):H7 P (ρ.f 6) [] (.buf (ρ.t 24) k<|lT τ l) (.buf (ρ.t 24) k<|lT τ r) [IL P (λx:A×A=>[τ x.1,τ x.2]) (λx:Int=>[(TI .i64) x]) c] []:=by
 let⟨h1,h2,h3,h4⟩:=Wm M;refine⟨hc,λw H v ps qs sub gl N hq hs=>?_⟩;have N:=Xr N;subst N;obtain⟨fv,rfl,O⟩:=N2 hq;obtain⟨g,cap,iq,rfl,YL,hf⟩:=O;let⟨xs,h,C,Q⟩:=hs;have E:(lT τ l).length=l.length:=BL ..;rw[E] at h;have JF:∀b,v.ownBlock=some b->H b= .none:=λb F=>(Q b F).1
 by_cases G:l=[]
 .subst G;have R:r=[]:=List.Perm.eq_nil h1;subst R;obtain⟨p,d,rfl⟩:∃p d,v= .slice p 0 d:=by
   rcases h.2 with⟨z,_⟩|⟨g,cap,cur,z,_⟩
   .grind
   .grind
  refine(none p d _ w).mono ?_;rintro e w' ⟨rfl,rfl⟩;exact⟨_,rfl,H,(Tr.refl _ _).JF sub JF,⟨xs,h,C,Q⟩,λb F=> .inl F,#[],rfl,rfl⟩
 .have hpos:0<l.length:=SN.2 G;obtain⟨blk,d,cur,rfl,o,S,T,U,y⟩:∃blk d cur,v= .slice (some ⟨blk,0,.none⟩) l.length d/\w.heap[blk]? =some (.cells cur (ρ.t 24) (0,0))/\l.length<=d/\d<=maxLen/\cur.size=d*k/\cur.toList.take (l.length*k)=xs:=by
   rcases h.2 with⟨_,hz⟩|⟨g,cap,cur,z,_,r⟩
   .omega
   .grind
  haveI:Inhabited (Fin l.length):=⟨⟨0,hpos⟩⟩
  let⟨IE,Qs⟩:=Rg J K C
  let V:Fin l.length->Fin l.length->Int:=λi j=>(c (l[i],l[j])).getD 0
  have q:∀i j:Fin l.length,c (l[i],l[j])=some (V i j):=λi j=>by
   let⟨v,z⟩:=h3 _ (Ja i.2) _<|Ja j.2
   have z:c (l[i],l[j])=some v:=z;show c (l[i],l[j])=some ((c (l[i],l[j])).getD 0);rw[z];rfl
  have hB:H blk= .none:=JF blk rfl;have Yv:=Dy.can (D:=DR.strict)<|hf _ _<|q ⟨0,hpos⟩ ⟨0,hpos⟩
  have I:=vV (P:=P) (off:=0) J K C sub gl hB YL hf V q;have W:(Array.ofFn λi:Fin l.length=>i).size=l.length:=Uf;have s:=AnyQ.slices_SortFunc L k aE zE (λi:Fin l.length=>chunk k xs i) (λi=>Rl IE i.2)
   (λi u hu=>Pv C u<|SO<|OL hu) V (xL M q) g cap blk 0 d (Array.ofFn λi:Fin l.length=>i) w
   (λargs w=>Ml Yv args w) (by rw[W];exact I) (uF IE o y) (lt_of_heap o) (by rw[W];exact h4)
  rw[W] at s;refine s.mono ?_;rintro e w' ⟨rfl,d',m,os,oE,X,rfl⟩;let⟨Y,Z⟩:=w9 M q oE X;let⟨ht,R⟩:=ajH J K (B:=Ah.MV P w λb=>(AT.buf (ρ.t 24) k<|lT τ l).owns w (.slice (some ⟨blk,0,.none⟩) l.length d) b) sub C Q o S T U Y Z m os;exact⟨_,rfl,H,ht,R,λb F=> .inl F,#[],rfl,rfl⟩
end
section
open Go.Shelf Go.Sort
variable[D:DR]
variable{n:Nat}{dk:B9 (Fin n)}{kp:Nat->Bool}{k m kk blk off:Nat}
structure Le(n:Nat)(kp:Nat->Bool)(m kk:Nat)(dk:B9 (Fin n)):Prop where
 size:dk.size=n
 le:kk<m
 low:(dk.toList.take kk).map (·.val)=(List.range m).filter kp
 high:∀j (hj:j<n),m-1<=j->∀h:j<dk.size,dk[j]=⟨j,hj⟩
theorem Le.len(h:Le n kp m kk dk)(a:m<=n):kk=((List.range m).filter kp).length:=by rw[<-h.low,BL,Dd,En,h.size];have:=h.le;omega
theorem Le.start(f:k<n)(a:∀j,j<k->kp j=true)(d:kp k=false):Le n kp (k+1) k (Array.ofFn λi:Fin n=>i):=by
 refine⟨AO,A4,?_,λj b _ h=>by simp⟩;rw[List.range_succ,LL,List.filter_eq_self.2<|λj b=>a j<|OG.1 b];have e:List.filter kp [k]=[]:=by simp[d]
 rw[e,HB,Array.toList_ofFn];apply Ul;intro i;rw[Fp,Up];by_cases hi:i<k
 .rw[if_pos hi,FT Co,FT (by simpa using hi)];simp
 .rw[if_neg hi,List.getElem?_eq_none (by simpa using hi)];rfl
theorem Le.skip(h:Le n kp m kk dk)(a:kp m=false):Le n kp (m+1) kk dk:=by have:=h.le;refine⟨h.size,A4,?_,λj b d=>h.high j b A4⟩;rw[List.range_succ,LL,<-h.low];simp[a]
theorem Le.DT(h:Le n kp m kk dk)(b:m<n)(d:kp m=true):Le n kp (m+1) (kk+1) (dk.setIfInBounds kk ⟨m,b⟩):=by
 have o:=h.le;refine⟨by simp[h.size],A4,?_,λj f p g=>?_⟩
 .rw[List.range_succ,LL,<-h.low];have e:List.filter kp [m]=[m]:=by simp[d]
  rw[e];have i:=h.size;have a:kk<dk.toList.length:=by rw[En,i];omega
  rw[eh,List.take_succ,List.take_set_of_le<|BJ _,Us a,I5]
  rfl
 .rw[Array.getElem_setIfInBounds (by simpa using g),if_neg A4];exact h.high j f A4 _
theorem an9{P:Bz}{A:Type}{τ:A->Ty}{H:HV}{c:A×A->A9 Bool}(B:∀a,(τ a).n=k)(C:∀a,(τ a).agg=true){l:A3 A}{xs:A3 AW}{w:AS}{g:Nat}{cap:B9 AW}{s:A3 Ty}(d:Cx H (lT τ l) xs)
 (sub:∀r o,H r=some o->w.heap[r]? =some o)(gl:JD P H)(E:H blk=none)(F:Du H s cap.toList)
 (G:∀a r,c a=some r-> @Dy DR.strict P g ([τ a.1,τ a.2]++s) (.vs [Az r]))[Inhabited<|Fin l.length](m:Nat)(os:B9 Obj)(dk:B9 (Fin l.length))(x y:Fin l.length){b:Bool}(f:c (l[x],l[y])=some b):Calls P g (#[.agg (chunk k xs x).toArray,.agg (chunk k xs y).toArray]++cap) (sortWorldK (λi:Fin l.length=>chunk k xs i) k w blk off m dk os) λe w'=>e= .returned (.bool b)/\∃q j,w'=Go.Sort.grow ((sortWorldK (λi:Fin l.length=>chunk k xs i) k w blk off m dk os).drewN q) j:=by
 let⟨_,t⟩:=Rg B C d;have I:∀r o,H r=some o->(sortWorldK (λi:Fin l.length=>chunk k xs i) k w blk off m dk os).heap[r]? =some o:=λr o h=>by have u:=sub r o h;rw[WE (lt_of_heap u) (λe=>by rw[e,E] at h;cases h)];exact u
 have z:=Dy.run (D:=DR.strict) (G (l[x],l[y]) _ f) _ H ([Value.agg (chunk k xs x).toArray,Value.agg (chunk k xs y).toArray]++cap.toList) I gl<|X0 ⟨_,_,rfl,t x x.2,_,_,rfl,t y y.2,rfl⟩ F
 have J:([Value.agg (chunk k xs x).toArray,Value.agg (chunk k xs y).toArray]++cap.toList).toArray= #[Value.agg (chunk k xs x).toArray,Value.agg (chunk k xs y).toArray]++cap:=AO;rw[J] at z;refine z.mono ?_;rintro e w' ⟨v,rfl,f,H',_,_,p⟩;have p:v= .bool b:=p;subst p;exact⟨rfl,zw f⟩
theorem tC{cs:B9 AW}:(Builtin.zeroCells cs n).toList.length=n*cs.size:=by simp[Builtin.zeroCells]
theorem adh{cs:B9 AW}(h:∀v∈cs.toList,v.oneCell'=true):∀v∈(Builtin.zeroCells cs n).toList,v.oneCell'=true:=by
 intro v a;unfold Builtin.zeroCells at a;rw[Array.toList_map,B4] at a;obtain⟨i,hi,rfl⟩:=a;have hi:i<n*cs.size:=by simpa using hi
 have b:0<cs.size:=(Jb cs.size).elim (λe=>by rw[e] at hi;simp at hi) id;have d:=M1 i b;rw[Hz cs (i%cs.size) d];exact h _ AO
theorem ad2{P:Bz}{W:AS}{S E ty:Ap}{z:AW}{c s:Nat}{F:B9 AW}(a:P.underlying S=some (.slice E))(b:∀w,(zeroValue E).run P w= .ok z w)(d:∀v∈z.cells.toList,v.oneCell'=true)(h:Holds id W blk off F)
 (e:s+n*z.cells.size<=F.size)(g:0<n):(Builtin.clear_ #[S] ty #[.slice (some ⟨blk,off+s,none⟩) n c]).run P W= .ok (.tuple #[]) (W.setCells blk (off+s) (Builtin.zeroCells z.cells n).toList):=by
 have f:=stores_of_holds P h s (Builtin.zeroCells z.cells n).toList (by rw[tC];exact e)<|adh d
 obtain⟨n,rfl⟩:∃m,n=m+1:=⟨n-1,A4⟩;unfold Builtin.clear_;simp[DS,E6 a,b,f,Result.andThen]
theorem af8[Inhabited<|Fin n]{enc:Fin n->A3 AW}(g:∀x,(enc x).length=k){i:Nat}(hi:i<dk.size)(x:Fin n):setMany (flatK enc k dk) (i*k) (enc x)=flatK enc k (dk.setIfInBounds i x):=by
 refine ext_get! AO λt j=>?_
 have b:t<dk.size*k:=by simpa using j
 have d:0<k:=(Jb k).elim (λh=>by subst h;simp at b) id;rw[get_setMany _ _ _ t (by simpa using b),get_flatK _ _ _ t b,get_flatK _ _ _ t (by simpa using b),g];by_cases a:t/k=i
 .rw[if_pos<|(blk_iff k i t d).2 a];have m:t-i*k=t%k:=by subst a;rw[Nat.mod_eq_sub_div_mul]
  rw[m,a,Hz (dk.setIfInBounds i x) i (by simpa using hi),Array.getElem_setIfInBounds_self]
 .rw[if_neg<|λh=>a<|(blk_iff k i t d).1 h];have f:t/k<dk.size:=Nat.div_lt_of_lt_mul (by rw[Jw];exact b);rw[Hz (dk.setIfInBounds i x) (t/k) (by simpa using f),Hz dk (t/k) f,Array.getElem_setIfInBounds_ne _<|λe=>a e.symm]
theorem alI[Inhabited<|Fin n]{enc:Fin n->A3 AW}{b W:AS}(h:SWK enc k b blk off dk W)(d:∀x,(enc x).length=k)(a:blk<b.heap.size){i:Nat}(hi:i<dk.size)(x:Fin n):SWK enc k b blk off (dk.setIfInBounds i x) (W.setCells blk (off+i*k)<|enc x):=by
 obtain⟨m,os,rfl⟩:=h;refine⟨m,os,?_⟩;have e:i*k+k<=dk.size*k:=by
  have:=JA k<|show i+1<=dk.size from hi
  rwa [IX,Iu] at this
 unfold sortWorldK;rw[setCells_grow os blk _ _ _ (by show blk<(putRowK enc k _ blk off dk).heap.size;rw[size_putRowK];exact a)]
 congr 1
 unfold putRowK;rw[setCells_putRow _ _ _ _ _ _ (by rw[d,size_flatK];exact e),af8 d hi]
end
end Trn
namespace Md
section
open Go.Shelf Go.Lib Go.Sort
set_option maxHeartbeats 4000000 in
set_option maxRecDepth 1000000 in
theorem agj{P:Program}(F:P.funcs[234]? =some f234)(mixed:P.follows .mixedOrders=true)(t0:P.underlying 0=prog.underlying 0)(t3:P.underlying 3=some (.int .i64))(a3:∀w,(isAgg 3).run P w= .ok false w)(z3:∀w,(Go.sizeOf 3).run P w= .ok 1 w)(v3:∀w,(zeroValue 3).run P w= .ok (.int .i64 0) w)(t4:P.underlying 4=some .bool)(a4:∀w,(isAgg 4).run P w= .ok false w)(z4:∀w,(Go.sizeOf 4).run P w= .ok 1 w)(V:P.underlying 129=some (.slice 86))(a129:∀w,(isAgg 129).run P w= .ok false w)(z129:∀w,(Go.sizeOf 129).run P w= .ok 1 w)
  {k:Nat}(a86:∀w,(isAgg 86).run P w= .ok true w)(z86:∀w,(Go.sizeOf 86).run P w= .ok k w)(R:Value)(X:∀w,(zeroValue 86).run P w= .ok R w)(M:R.cells.size=k)(Y:∀v∈R.cells.toList,v.oneCell'=true){n:Nat}[Inhabited<|Fin n](enc:Fin n->List Value)(hk:∀x,(enc x).length=k)(h1:∀x,∀v∈enc x,v.oneCell'=true)(g:Nat)(Z:Array Value)(kp:Nat->Bool)(k0:kp 0=true)(blk off cap:Nat)(w:World)
  (eg:∀args w,(callFunc g args).run P w= .ok (.enter g args) w)(hH:HoldsK enc k w blk off (Array.ofFn λi:Fin n=>i))(hblk:blk<w.heap.size)(hcap:n<=cap)(hsz:n<=9223372036854775807)
  (L:∀(m:Nat) (os:Array Obj) (dk:Array (Fin n)) (j:Nat) (G:j+1<n),Calls P g (#[.agg (enc ⟨j+1,G⟩).toArray,.agg (enc ⟨j,Nat.lt_of_succ_lt G⟩).toArray]++Z) (sortWorldK enc k w blk off m dk os) λe w'=>e= .returned (.bool<| !kp (j+1))/\∃q a,w'=grow ((sortWorldK enc k w blk off m dk os).drewN q) a):Calls P 234 #[.slice (some ⟨blk,off,none⟩) n cap,.func (.func g) #[] Z] w λe w'=>∃kk dk zs W,e= .returned (.slice (some ⟨blk,off,none⟩) kk cap)/\kk=((List.range n).filter kp).length/\SWK enc k w blk off dk W/\dk.size=n/\(dk.toList.take kk).map (·.val)=(List.range n).filter kp/\w'=W.setCells blk (off+kk*k) zs/\zs.length<=(n-kk)*k:=by
 have kz:∀j,j<1->kp j=true:=λj G=>by obtain rfl:j=0:=Trn.A4;exact k0
 have hpos:0<n:=Fin.pos default;have o:(Array.ofFn λi:Fin n=>i).size=n:=Array.size_ofFn;have S0:Aside (SWK enc k w blk off (Array.ofFn λi:Fin n=>i) w):=SWK.start hH;have s:Aside (RowK enc k w blk off (Array.ofFn λi:Fin n=>i)):=⟨hk,h1,hH,hblk⟩;have CM:Aside (∀(m:Nat) (os:Array Obj) (dk:Array (Fin n)) (j:Nat) (G:j+1<n),Calls P g (#[.agg (enc ⟨j+1,G⟩).toArray,.agg (enc ⟨j,Nat.lt_of_succ_lt G⟩).toArray]++Z) (sortWorldK enc k w blk off m dk os) λe w'=>e= .returned (.bool<| !kp (j+1))/\∃q a,w'=grow ((sortWorldK enc k w blk off m dk os).drewN q) a):=L;clear hH hk h1 L;have all:∀W,SWK enc k w blk off (Array.ofFn λi:Fin n=>i) W->(∀j,j<n->kp j=true)->∃kk dk zs W',(Ending.returned<| .slice (some ⟨blk,off,none⟩) n cap)= .returned (.slice (some ⟨blk,off,none⟩) kk cap)/\kk=((List.range n).filter kp).length/\SWK enc k w blk off dk W'/\dk.size=n/\(dk.toList.take kk).map (·.val)=(List.range n).filter kp/\W=W'.setCells blk (off+kk*k) zs/\zs.length<=(n-kk)*k:=λW hW hall=>by
  have e:(List.range n).filter kp=List.range n:=List.filter_eq_self.2 λj G=>hall j<|List.mem_range.1 G
  refine⟨n,_,[],W,rfl,by rw[e];simp,hW,o,?_,rfl,Nat.zero_le _⟩;rw[e,Array.toList_ofFn];apply List.ext_getElem
  .simp
  .intro i h1 h2;simp
 have ALL:Aside (∀W,SWK enc k w blk off (Array.ofFn λi:Fin n=>i) W->(∀j,j<n->kp j=true)->∃kk dk zs W',(Ending.returned<| .slice (some ⟨blk,off,none⟩) n cap)= .returned (.slice (some ⟨blk,off,none⟩) kk cap)/\kk=((List.range n).filter kp).length/\SWK enc k w blk off dk W'/\dk.size=n/\(dk.toList.take kk).map (·.val)=(List.range n).filter kp/\W=W'.setCells blk (off+kk*k) zs/\zs.length<=(n-kk)*k):=all;clear all;by_cases h2:n<2
 .go_enter F,ntmps234
  go_wp2
  go_ret
  exact ALL.out w S0.out λj G=>kz j Trn.A4
 .go_enter F,ntmps234
  go_wp2
  go_loopg [5] n (λgg s5 wr=>∃E:Nat,1<=E/\E<=n/\n-E<=gg/\s5= .int .i64 E/\Aside (SWK enc k w blk off (Array.ofFn λi:Fin n=>i) wr)/\Aside (∀j,j<E->kp j=true))
  case atStart=>exact⟨1,Nat.le_refl _,Trn.A4,Trn.A4,by first|rfl|go_num,S0,kz⟩
  case round=>
   clear S0;obtain⟨E,hk1,hkn,hg,rfl,S,HA⟩:=hrel;by_cases t:E<n
   .obtain⟨j,rfl⟩:∃j,E=j+1:=⟨E-1,Trn.A4⟩;have jz:(j:Int)+1<(n:Int):=Trn.A4;have jz1:(j:Int)<(n:Int):=Trn.A4;have p0:(0:Int)<=(j:Int)+1:=Trn.A4;have e0:((j:Int)+1).toNat=j+1:=Trn.A4;have hwp:IntKind.i64.wrap (j:Int)=(j:Int):=by rw[IntKind.wrap_i64];omega
    obtain⟨cx,hcx⟩:∃c,(enc ⟨j+1,t⟩).toArray=c:=⟨_,rfl⟩;obtain⟨cy,hcy⟩:∃c,(enc ⟨j,Nat.lt_of_succ_lt t⟩).toArray=c:=⟨_,rfl⟩;have lj:∀d a,Sem.run P (loadCellsFrom ⟨blk,off+(j+1)*k,none⟩ 0 k #[]) (grow (wr.drewN d) a)= .ok cx (grow (wr.drewN d) a):=λd a=>by have:=S.out.ld s.out (by rw[o]) P (j+1) (by rw[o];exact t) d a;rw[this,<-hcx,getElem!_pos _ _ (by rw[o];exact t)];simp
    have lp:∀d a,Sem.run P (loadCellsFrom ⟨blk,off+j*k,none⟩ 0 k #[]) (grow (wr.drewN d) a)= .ok cy (grow (wr.drewN d) a):=λd a=>by have:=S.out.ld s.out (by rw[o]) P j (by rw[o];omega) d a;rw[this,<-hcy,getElem!_pos _ _ (by rw[o];omega)];simp
    have f:∀d a,Calls P g (#[.agg cx,.agg cy]++Z) (grow (wr.drewN d) a) λe w'=>e= .returned (.bool<| !kp (j+1))/\∃q z,w'=grow ((grow (wr.drewN d) a).drewN q) z:=λd a=>by let⟨m,N,hw⟩:=S.out.grown d a;rw[hw,<-hcx,<-hcy];exact CM.out m N _ j t
    cases I:kp (j+1) with
    |true=>
     rw[I,Bool.not_true] at f
     go_wp2_with fail
     go_quiet_grown (first|(go_at_fn g;refine Calls.grown_of<|f _ _))
     go_wp2
     go_roundg (n-(j+1+1))
     case measure=>omega
     case rel=>exact⟨j+1+1,Trn.A4,Trn.A4,Nat.le_refl _,by first|rfl|go_num,S.out.grown nq osq,λi hi=>by
      rcases Nat.lt_or_ge i (j+1) with h|h
      .exact HA.out i h
      .have:i=j+1:=Trn.A4;rw[this];exact I⟩
    |false=>
     rw[I,Bool.not_false] at f
     go_wp2_with fail
     go_quiet_grown (first|(go_at_fn g;refine Calls.grown_of<|f _ _))
     have O:Aside (SWK enc k w blk off (Array.ofFn λi:Fin n=>i)<|grow (wr.drewN nq) osq):=S.out.grown nq osq;clear lj lp f
     generalize grow (wr.drewN nq) osq=wq at O⊢
     go_wp2
     go_loopg [5,7] n (λgg s5 s7 wr=>∃(kk B:Nat) (dk:Array (Fin n)),s5= .int .i64 kk/\s7= .int .i64 B/\1<=B/\j+1+B<=n/\n-(j+1+B)<=gg/\Aside (SWK enc k w blk off dk wr)/\Aside (Trn.Le n kp (j+1+B) kk dk)/\kk<j+1+B)
     case atStart=>exact⟨j+1,1,_,by first|rfl|go_num,rfl,Nat.le_refl _,Trn.A4,Trn.A4,O,Trn.Le.start t HA.out I,Trn.A4⟩
     case round=>
      clear O;obtain⟨kk,B,dk,rfl,rfl,h21,hle,hg2,p,T,hkk⟩:=hrel;have u:dk.size=n:=T.out.size;by_cases b:j+1+B<n
      .obtain⟨i,rfl⟩:∃i,B=i+1:=⟨B-1,Trn.A4⟩;have iz:(i:Int)+1<((n-(j+1):Nat):Int):=Trn.A4;have iz1:(i:Int)<((n-(j+1):Nat):Int):=Trn.A4;have q0:(0:Int)<=(i:Int)+1:=Trn.A4;have f0:((i:Int)+1).toNat=i+1:=Trn.A4;have hwq:IntKind.i64.wrap (i:Int)=(i:Int):=by rw[IntKind.wrap_i64];omega
       have ea:off+(j+1)*k+(i+1)*k=off+(j+1+(i+1))*k:=by rw[Nat.add_assoc,<-Nat.add_mul]
       have eb:off+(j+1)*k+i*k=off+(j+1+i)*k:=by rw[Nat.add_assoc,<-Nat.add_mul]
       have ga:dk[j+1+(i+1)]! =⟨j+1+(i+1),b⟩:=by rw[getElem!_pos dk _ Trn.A4];exact T.out.high _ b Trn.A4 _
       have gb:dk[j+1+i]! =⟨j+1+i,Nat.lt_of_succ_lt b⟩:=by rw[getElem!_pos dk _ Trn.A4];exact T.out.high (j+1+i) (Nat.lt_of_succ_lt b) (show j+1+(i+1)-1<=j+1+i by omega) _
       obtain⟨U,J⟩:∃c,enc ⟨j+1+(i+1),b⟩=c:=⟨_,rfl⟩;obtain⟨cv,Q⟩:∃c,enc ⟨j+1+i,Nat.lt_of_succ_lt b⟩=c:=⟨_,rfl⟩;have lu:∀d a,Sem.run P (loadCellsFrom ⟨blk,off+(j+1)*k+(i+1)*k,none⟩ 0 k #[]) (grow (wr.drewN d) a)= .ok U.toArray (grow (wr.drewN d) a):=λd a=>by have:=p.out.ld s.out (by rw[o];exact u) P (j+1+(i+1)) Trn.A4 d a;rw[ea,this,ga,J]
       have lv:∀d a,Sem.run P (loadCellsFrom ⟨blk,off+(j+1)*k+i*k,none⟩ 0 k #[]) (grow (wr.drewN d) a)= .ok cv.toArray (grow (wr.drewN d) a):=λd a=>by have:=p.out.ld s.out (by rw[o];exact u) P (j+1+i) Trn.A4 d a;rw[eb,this,gb,Q]
       have f:∀d a,Calls P g (#[.agg U.toArray,.agg cv.toArray]++Z) (grow (wr.drewN d) a) λe w'=>e= .returned (.bool<| !kp (j+1+(i+1)))/\∃q z,w'=grow ((grow (wr.drewN d) a).drewN q) z:=λd a=>by let⟨m,N,hw⟩:=p.out.grown d a;rw[hw,<-J,<-Q];exact CM.out m N dk (j+1+i) b
       have GU:Aside (dk[j+1+(i+1)]! =⟨j+1+(i+1),b⟩/\enc ⟨j+1+(i+1),b⟩=U):=⟨ga,J⟩;clear ea eb ga gb J Q;cases K:kp (j+1+(i+1)) with
       |true=>
        rw[K,Bool.not_true] at f
        go_wp2_with fail
        go_quiet_grown (first|(go_at_fn g;refine Calls.grown_of<|f _ _))
        have y:Aside (SWK enc k w blk off dk<|grow (wr.drewN nq) osq):=p.out.grown nq osq;have l3:=lu nq osq;clear lu lv f p
        generalize grow (wr.drewN nq) osq=wq at y l3⊢
        have n3:U.length=k:=by rw[<-GU.out.2];exact s.out.hk _
        have s3:Sem.run P (storeCells ⟨blk,off+kk*k,none⟩ U 0) wq= .ok () (wq.setCells blk (off+kk*k) U):=by rw[<-GU.out.2];exact stores_of_holds P (y.out.holds s.out.hblk s.out.hH (by rw[u,o])) (kk*k) _ (by rw[s.out.hk,size_flatK];exact rowK_bnd dk k kk Trn.A4)<|s.out.h1 _
        have kz1:(kk:Int)<(n:Int):=Trn.A4
        go_wp2
        go_roundg (n-(j+1+(i+1+1)))
        case measure=>omega
        case rel=>exact⟨kk+1,i+1+1,dk.setIfInBounds kk ⟨j+1+(i+1),b⟩,by first|rfl|go_num,by first|rfl|go_num,Trn.A4,Trn.A4,Nat.le_refl _,by show SWK _ _ _ _ _ _ _;rw[<-GU.out.2];exact Trn.alI y.out s.out.hk s.out.hblk Trn.A4 _,T.out.DT b K,Trn.A4⟩
       |false=>
        rw[K,Bool.not_false] at f
        go_wp2_with fail
        go_quiet_grown (first|(go_at_fn g;refine Calls.grown_of<|f _ _))
        have y:Aside (SWK enc k w blk off dk<|grow (wr.drewN nq) osq):=p.out.grown nq osq;clear lu lv f p
        generalize grow (wr.drewN nq) osq=wq at y⊢
        go_wp2
        go_roundg (n-(j+1+(i+1+1)))
        case measure=>omega
        case rel=>exact⟨kk,i+1+1,dk,rfl,by first|rfl|go_num,Trn.A4,Trn.A4,Nat.le_refl _,y,T.out.skip K,Trn.A4⟩
      .have hend:j+1+B=n:=Trn.A4;have hcl:∀ty,(Builtin.clear_ #[129] ty #[.slice (some ⟨blk,off+kk*k,none⟩) (n-kk)<|cap-kk]).run P wr= .ok (.tuple #[]) (wr.setCells blk (off+kk*k) (Builtin.zeroCells R.cells<|n-kk).toList):=λty=>Trn.ad2 V X Y (p.out.holds s.out.hblk s.out.hH (by rw[u,o])) (by rw[M,size_flatK,u,<-Nat.add_mul];exact Nat.mul_le_mul_right k Trn.A4) Trn.A4
       have kz1:(kk:Int)<=(n:Int):=Trn.A4;have hzl:(Builtin.zeroCells R.cells<|n-kk).toList.length<=(n-kk)*k:=by rw[Trn.tC,M];exact Nat.le_refl _
       generalize (Builtin.zeroCells R.cells<|n-kk).toList=zl at hcl hzl
       clear X M Y
       go_wp2
       go_ret
       have C:=T.out;rw[hend] at C;exact⟨kk,dk,zl,wr,rfl,C.len<|Nat.le_refl _,p.out,u,C.low,rfl,hzl⟩
   .have:E=n:=Trn.A4;subst this
    go_wp2
    go_ret
    exact ALL.out wr S.out HA.out
set_option maxHeartbeats 4000000 in
set_option maxRecDepth 1000000 in
theorem agk(p:Option Addr)(m:Nat)(b:m<2)(cap:Nat)(a:Value)(w:World):Calls prog 234 #[.slice p m cap,a] w λe w'=>e= .returned (.slice p m cap)/\w'=w:=by
 go_enter func234,ntmps234
 go_wp2
 go_ret
 exact⟨rfl,rfl⟩
end
end Md
namespace Trn
section
open Go.Shelf Go.Sort
variable[D:DR]
variable{α:Type}{blk:Nat}
def flags{α:Type}(l:A3 α)(bs:A3 Bool):A3 α:=((l.zip bs).filter (·.2)).map (·.1)
theorem vW{α:Type}{e:α->α->A9 Bool}:∀{l:A3 α} {x:α} {r:A3 α},VW e x l=some r->∃bs:A3 Bool,bs.length=l.length/\(∀j (a:j<l.length) (f:j<(x::l).length) (d:j<bs.length),e l[j] (x::l)[j]=some (!bs[j]))/\r=flags l bs
 |[],x,r,h=>by cases h;exact⟨[],rfl,λj a=>absurd a<|Nat.not_lt_zero _,rfl⟩
 |y::l,x,r,h=>by
  let⟨b,q,h⟩:=LM h;let⟨s,g,h⟩:=LM h;let⟨bs,i,f,d⟩:=vW g;have h:=E2 h;refine⟨(!b)::bs,by simp[i],λj a o p=>?_,?_⟩
  .grind
  .rw[<-h,d];cases b<;>simp[flags]
theorem uh{α:Type}:∀{l:A3 α} {bs:A3 Bool},bs.length=l.length->((List.range l.length).filter λj=>bs.getD j true).map (λj=>l[j]?)=(flags l bs).map some
 |[],[],_=>rfl|[],_::_,h=>by simp at h|_::_,[],h=>by simp at h
 |x::l,b::bs,h=>by
  have ih:=uh (l:=l) (bs:=bs) (by simpa using h);rw[DP,List.range_succ_eq_map,SH,List.filter_map];have e:(λj=>(b::bs).getD j true)∘Nat.succ=λj=>bs.getD j true:=by funext j;simp
  rw[e];have a:(((List.range l.length).filter λj=>bs.getD j true).map Nat.succ).map (λj=>(x::l)[j]?)=(flags l bs).map some:=by rw[<-ih,LB];apply eG;intro j _;simp
  cases b
  .simpa[flags] using a
  .simpa[flags] using a
theorem aeH{l r:A3 α}{c:α×α->A9 Bool}(h:XF l c=some r):∃kp:Nat->Bool,kp 0=true/\(∀j (a:j+1<l.length),c (l[j+1],l[j])=some (!kp (j+1)))/\((List.range l.length).filter kp).map (λj=>l[j]?)=r.map some:=by
 cases l with
 |nil=>cases h;exact⟨λ_=>true,rfl,λj a=>absurd a<|Nat.not_lt_zero _,rfl⟩
 |cons x l=>
  let⟨f,b,h⟩:=LM h;have h:=E2 h;let⟨bs,d,g,e⟩:=vW b;refine⟨λj=>(true::bs).getD j true,rfl,λj a=>?_,?_⟩
  .grind
  .rw[uh (l:=x::l) (bs:=true::bs) (by simp[d]),<-h,e];simp[flags]
theorem acg{W:AS}{o:Nat}{cur:B9 AW}{E:Ap}{fr:Nat×Nat}{v:AW}(h:W.heap[blk]? =some (.cells cur E fr)):(W.setCell ⟨blk,o,none⟩ v).heap[blk]? =some (.cells (cur.setIfInBounds o v) E fr):=by simp[World.setCell,SR,h]
theorem sE{blk:Nat}{E:Ap}{fr:Nat×Nat}:∀{vs:A3 AW} {W:AS} {o:Nat} {cur:B9 AW},W.heap[blk]? =some (.cells cur E fr)->(W.setCells blk o vs).heap[blk]? =some (.cells (setMany cur o vs) E fr)
 |[],_,_,_,h=>h|v::vs,W,o,cur,h=>sE (vs:=vs)<|acg h
theorem uG{blk:Nat}:∀{vs:A3 AW} {W:AS} {o:Nat},Dw W (W.setCells blk o vs) (some blk)
 |[],W,o=>⟨⟨rfl,rfl,rfl,BJ _,λ_ _ _=>rfl⟩,BJ _⟩
 |v::vs,W,o=>by have h:=uG (blk:=blk) (vs:=vs) (W:=W.setCell ⟨blk,o,none⟩ v) (o:=o+1);refine⟨⟨h.os,h.tape,h.output,CA (by simp[World.setCell]) h.size,λk b a=>?_⟩,h.drawn⟩;have d:=h.block k (by simpa[World.setCell] using b) a;show(World.setCells _ blk (o+1) vs).heap[k]? =_;rw[d];exact Below.heap_setCell _ _ _ _ (λe=>a (by rw[e]))
theorem tn{m:Nat}:∀{vs:A3 AW} {F:B9 AW} {s:Nat},m<=s->(setMany F s vs).toList.take m=F.toList.take m
 |[],_,_,_=>rfl
 |v::vs,F,s,h=>by rw[setMany,tn (vs:=vs) A4,eh,List.take_set_of_le h]
theorem adZ[Inhabited α]{enc:α->A3 AW}{k:Nat}{w:AS}{m:Nat}{dk:B9 α}{os:B9 Obj}:Dw w (sortWorldK enc k w blk 0 m dk os) (some blk):=by refine⟨⟨rfl,rfl,rfl,jR,λi hi a=>WE hi (λe=>a (by rw[e]))⟩,?_⟩;refine Fe.of ?_;show w.drawn<=(sortWorldK _ k w blk 0 m dk os).drawn;unfold sortWorldK Go.Sort.grow Go.Sort.putRowK Go.Sort.putRow Go.Sort.mapBlock Go.Sort.ahead;exact SI _ _
theorem Dw.trans{w d e:AS}{a:A9 Nat}(h:Dw w d a)(k:Dw d e a):Dw w e a:=⟨⟨k.os.trans h.os,k.tape.trans h.tape,k.output.trans h.output,CA h.size k.size,λi hi b=>(k.block i (I6 hi h.size) b).trans<|h.block i hi b⟩,CA h.drawn k.drawn⟩
end
section
open Go.Shelf Go.Sort
variable[D:DR]
variable{P:Program}{A:Type}{τ:A->Ty}{k:Nat}{c:A×A->Option Bool}{f E:Nat}
theorem aen(hc:FQ P f=true)(hn:∀a,(τ a).n=k)(ha:∀a,(τ a).agg=true)
  (U:∀(p:A9 Addr) (m:Nat) (R:m<2) (cap:Nat) (fv:AW) (w:AS),Calls P f #[.slice p m cap,fv] w λe w'=>e= .returned (.slice p m cap)/\w'=w)
  (V:∀{n:Nat} [Inhabited<|Fin n] (enc:Fin n->A3 AW) (hk:∀x,(enc x).length=k) (h1:∀x,∀v∈enc x,v.oneCell'=true) (g:Nat) (cb:B9 AW) (kp:Nat->Bool) (k0:kp 0=true) (blk off cap:Nat) (w:AS)
   (eg:∀args w,(callFunc g args).run P w= .ok (.enter g args) w) (hH:HoldsK enc k w blk off (Array.ofFn λi:Fin n=>i)) (y:blk<w.heap.size) (hcap:n<=cap) (hsz:n<=9223372036854775807)
   (hcmp:∀(m:Nat) (os:B9 Obj) (dk:B9 (Fin n)) (j:Nat) (B:j+1<n),Calls P g (#[.agg (enc ⟨j+1,B⟩).toArray,.agg (enc ⟨j,Nat.lt_of_succ_lt B⟩).toArray]++cb) (sortWorldK enc k w blk off m dk os) λe w'=>e= .returned (.bool<| !kp (j+1))/\∃q X,w'=Go.Sort.grow ((sortWorldK enc k w blk off m dk os).drewN q) X),Calls P f #[.slice (some ⟨blk,off,none⟩) n cap,.func (.func g) #[] cb] w λe w'=>∃kk dk zs W,e= .returned (.slice (some ⟨blk,off,none⟩) kk cap)/\kk=((List.range n).filter kp).length/\SWK enc k w blk off dk W/\dk.size=n/\(dk.toList.take kk).map (·.val)=(List.range n).filter kp/\w'=W.setCells blk (off+kk*k) zs/\zs.length<=(n-kk)*k)
  {l r:A3 A}(R:XF l c=some r):fN P f E k (lT τ l) [IL P (λx:A×A=>[τ x.1,τ x.2]) (λx:Bool=>[Az x]) c] (lT τ r):=by
 let⟨kp,Y,J,Z⟩:=aeH R;refine⟨hc,λw H v xs vs sub gl z S hH hvs=>?_⟩;obtain⟨fv,rfl,hfv⟩:=N2 hvs;obtain⟨g,cap,iq,rfl,YL,hf⟩:=hfv;have F:(lT τ l).length=l.length:=BL ..;rw[F] at z;by_cases K:l.length<2
 .have hr:r=l:=by match l,K with|[],_=>cases R;rfl|[x],_=>cases R;rfl|a::b::t,h=>simp[DP] at h;omega
  subst hr;obtain⟨p,s,rfl⟩:∃p s,v= .slice p r.length s:=by
   rcases z.2 with⟨hv,h0⟩|⟨g,cap,cur,hv,_⟩
   .grind
   .grind
  refine(U p r.length K s _ w).mono ?_;rintro e w' ⟨rfl,rfl⟩;exact⟨_,rfl,⟨⟨rfl,rfl,rfl,BJ _,λ_ _ _=>rfl⟩,BJ _⟩,xs,by rw[F];exact z,S,λb T=>T⟩
 .have hpos:0<l.length:=A4;obtain⟨blk,s,cur,rfl,y,L,M,hcs,G⟩:∃blk s cur,v= .slice (some ⟨blk,0,.none⟩) l.length s/\w.heap[blk]? =some (.cells cur E (0,0))/\l.length<=s/\s<=maxLen/\cur.size=s*k/\cur.toList.take (l.length*k)=xs:=by
   rcases z.2 with⟨_,hz⟩|⟨g,cap,cur,hv,_,r⟩
   .omega
   .grind
  haveI:Inhabited (Fin l.length):=⟨⟨0,hpos⟩⟩
  let⟨IE,Qs⟩:=Rg hn ha S;have hB:H blk= .none:=hH blk rfl;have Yv:∀j (B:j+1<l.length),FQ P g=true:=λj B=>Dy.can (D:=DR.strict)<|hf _ _<|J j B
  have N:=V (λi:Fin l.length=>chunk k xs i) (λi=>Rl IE i.2) (λi u hu=>Pv S u<|SO<|OL hu) g cap kp Y blk 0 s w
   (λargs w=>Ml (Yv 0 A4) args w) (uF IE y G) (lt_of_heap y) L (CA L M)
   (λm os dk j B=>an9 (off:=0) hn ha S sub gl hB YL hf m os dk ⟨j+1,B⟩ ⟨j,Nat.lt_of_succ_lt B⟩<|J j B)
  refine N.mono ?_;rintro e w' ⟨kk,dk,zs,W,rfl,hkk,⟨m,os,rfl⟩,hdk,iC,rfl,hzs⟩;have hlr:(dk.toList.take kk).map (λi=>l[i])=r:=by
   have h1:((dk.toList.take kk).map λi=>l[i]).map some=r.map some:=by rw[<-Z,<-iC,LB,LB];apply eG;intro i _;simp
   exact(List.map_inj_right<|λa b h=>E2 h).1 h1
  have Ko:kk<=l.length:=AK;have O:r.length=kk:=AK;have C:(flatK (λi:Fin l.length=>chunk k xs i) k dk).size=l.length*k:=by rw[size_flatK,hdk]
  have hle:l.length*k<=cur.size:=AK;have I:kk*k<=l.length*k:=JA k Ko;have jX:=sE (vs:=zs) (o:=0+kk*k)<|rr (enc:=λi:Fin l.length=>chunk k xs i) (k:=k) (m:=m) (dk:=dk) (os:=os) y
  have VM:=tT (α:=Fin l.length) (d:=flatK (λi:Fin l.length=>chunk k xs i) k dk) (cur:=cur) (by rw[C];exact hle);rw[C] at VM;refine⟨_,rfl,adZ.trans uG,(flatK (λi:Fin l.length=>chunk k xs i) k dk).toList.take<|kk*k,?_,?_,λb T=>T⟩
  .rw[BL,O];refine⟨by rw[Dd,En,C];exact Ds I,.inr ⟨blk,s,_,rfl,EU _,jX,A4,M,?_,?_⟩⟩
   .rw[size_setMany,<-hcs];simp[Go.Sort.putCells]
   .rw[tn A4,<-VM,M5,Ds I]
  .refine Zq (by rw[Dd,En,C,O];exact Ds I) λi hi=>?_
   have Q:i<dk.size:=A4;have ec:chunk k ((flatK (λi:Fin l.length=>chunk k xs i) k dk).toList.take<|kk*k) i=chunk k (flatK (λi:Fin l.length=>chunk k xs i) k dk).toList i:=by
    have T:i*k+k<=kk*k:=by have:=JA k (show i+1<=kk by omega);rwa [IX,Iu] at this
    unfold chunk;rw[Jy,M5,Ds (by rw[Nat.le_sub_iff_add_le A4];omega)]
   rw[ec,mB (λi=>Rl IE i.2) Q,Hz dk i Q];have e:r[i]=l[dk[i]]:=AK;rw[e];exact Qs _ dk[i].2
end
section
variable{x:Int}{l:A3 Int}{y:Int}{n:Nat}{r:Int×A3 Int}{q:Int}{s:Nat}{ρ:Type}{R:ρ->Prop}{a:A3 Int}{α:Type}{b:A3 Int}{y1 y0 N d z:Int}{m k:Nat}{K:α->A9 ρ}{X Y u0 v0 v1:Int}{w:A3 Int}{P UL VL U2:Int}
def Yd{ρ:Type}(R:ρ->Prop)(o:A9 ρ):Prop:=∃r,o=some r/\R r
def AV{x:ρ}(h:R x):Yd R (some x):=⟨x,rfl,h⟩
def A5{e:A9 α}{x:α}(h:e=some x)(k:Yd R (K x)):Yd R (Trn.bd e K):=by subst h;exact k
def F8{o:A9 α}{r:α}(h:Yd (λx=>x=r) o):o=some r:=by obtain⟨x,e,rfl⟩:=h;exact e
theorem Au{S:α->Prop}{e:A9 α}(h:Yd S e)(k:∀x,S x->Yd R (K x)):Yd R (Trn.bd e K):=by grind [Yd,bd]
theorem Ab{b:Bool}{x y:A9 ρ}(e:b=true->Yd R x)(g:b=false->Yd R y):Yd R (cond b x y):=by grind
def Yd.gC{ρ:Type}{R:ρ->Prop}{b:Bool}{x:A9 ρ}(e:b=true)(g:Yd R x):Yd R (Trn.gC b x):=by subst e;exact g
def FC{g:Bool}{d:α}{e:A9 α}(i:g=true->∃x,e=some x/\Yd R (K x))(j:g=false->Yd R (K d)):Yd R (Trn.Aw g d e K):=by
 cases g
 .exact j rfl
 .obtain⟨x,rfl,h⟩:=i rfl;exact h
def CZ(I:α->Prop){E:(α->A9 ρ)->A9 ρ}(e:∀s,I s->Yd R (K s))(g:∀k,(∀s,I s->Yd R (k s))->Yd R (E k)):Yd R (Trn.jn K E):=g K e
def Dl{σ ρ:Type}{R:ρ->Prop}{B:(σ->A9 ρ)->σ->A9 ρ}(I:σ->Prop)(e:σ->Nat)(h:∀next s,I s->(∀s',I s'->e s'<e s->Yd R (next s'))->Yd R (B next s)):∀(F:Nat) (s:σ),I s->e s<F->Yd R (Trn.lp F B s)
 |0,s,_,h=>by omega|F+1,s,hi,hm=>h _ s hi λs' g i=>Dl I e h F s' g A4
theorem Yd.imp{S:ρ->Prop}{o:A9 ρ}(h:Yd R o)(k:∀r,R r->S r):Yd S o:=by grind [Yd]
def Dj{n:Int}(h:Cd n):AG n=some n:=by
 unfold Cd at h;unfold AG Gb;rw[B1 h.1,B1 h.2]
 rfl
def BE{n:Int}(h: -9223372036854775808<=n/\n<=9223372036854775807:=by omega):AG n=some n:=Dj h
theorem SY{i:Int}(e:0<=i)(g:i<l.length):AB l i=some (l.getD i.toNat 0):=by grind [AB]
def Bc(h:n<l.length):AB l (n:Int)=some (l.getD n 0):=by show l[n]? =_;simp[h]
theorem NU{b:Nat}{n:Int}{z:α}(e:0<=n)(g:b*n<=140737488355328)(h:1<=b):mk_ b n z=some (List.replicate n.toNat z):=by induction b<;>grind [mk_]
theorem DV{l:A3 α}{lo hi:Int}(e:0<=lo)(g:lo<=hi)(h:hi<=l.length):Bo l lo hi=some ((l.take hi.toNat).drop lo.toNat):=by grind [Bo]
theorem ane{k:IntKind}(h:0<=y):KC k x y=some (x.fdiv<|2^(min y.toNat k.bits)):=by grind [KC]
theorem anf{k:IntKind}(h:0<=y):KD k x y=some (k.wrap<|x*2^(min y.toNat k.bits)):=by grind [KD]
abbrev BB:Int:=18446744073709551616
def B2(n:Nat):Int:=BB^n
def XO:B2 0=1:=rfl
def Hf(n:Nat):B2 (n+1)=BB*B2 n:=by unfold B2;rw[Int.pow_succ,EO]
def JP:∀n,0<B2 n
 |0=>by rw[XO];omega|n+1=>by rw[Hf];have:=JP n;unfold BB;omega
theorem cz(m n:Nat):B2 (m+n)=B2 m*B2 n:=by grind [B2]
def Kz(x:Int)(l:A3 Int):AN (x::l)=x+BB*AN l:=rfl
def Tt:∀(l m:A3 Int),AN (l++m)=AN l+B2 l.length*AN m
 |[],m=>by simp[AN,XO]
 |x::l,m=>by rw[OJ,Kz,Kz,Tt l m,DP,Hf,Cy,EV];omega
def Xq:okW []:=by intro x h;cases h
theorem Mz:okW (x::l)↔(0<=x/\x<BB)/\okW l:=by simp_all [okW,BB]
theorem vI{m:A3 Int}:okW (l++m)↔okW l/\okW m:=by grind [okW]
theorem Jq(h:okW l)(n:Nat):okW (l.take n):=by grind [okW]
theorem Pu(h:okW l)(n:Nat):okW (l.drop n):=by grind [okW]
theorem Ev(h:okW l)(n:Nat):0<=l.getD n 0/\l.getD n 0<BB:=by
 by_cases e:n<l.length
 .have:l.getD n 0=l[n]:=by simp[HD,e]
  rw[this];exact h _<|Ja e
 .grind
theorem Tk(n:Nat):okW (List.replicate n 0):=by grind [okW]
theorem IW(h:okW l)(n:Nat)(e:0<=x/\x<BB):okW (l.set n x):=by(simp_all [okW,BB]<;>grind)
def jf:∀n,AN (List.replicate n 0)=0
 |0=>rfl|n+1=>by rw[List.replicate_succ,Kz,jf n];omega
def FN:∀{l:A3 Int},okW l->0<=AN l/\AN l<B2 l.length
 |[],_=>by simp[AN,XO]
 |x::l,h=>by rw[Mz] at h;let⟨e,g⟩:=FN h.2;rw[Kz,DP,Hf];have:=h.1;unfold BB at*;omega
theorem ZZ(h:n<l.length):l.take (n+1)=l.take n++[l.getD n 0]:=by simp_all
def WI(h:n<l.length):AN (l.take<|n+1)=AN (l.take n)+B2 n*l.getD n 0:=by rw[ZZ h,Tt,Dd,Ds A4];simp[AN]
def Pd(l:A3 Int)(n:Nat)(h:n<=l.length):AN l=AN (l.take n)+B2 n*AN (l.drop n):=by
 conv=>lhs;rw[<-MK n l]
 rw[Tt,Dd,Ds h]
def Ri:∀{l:A3 Int},okW l->l≠[]->l.getLast?≠some 0->B2 (l.length-1)<=AN l
 |[],_,h,_=>absurd rfl h
 |[x],h,_,hl=>by
  rw[Mz] at h;have:x≠0:=λe=>hl (by rw[e];rfl)
  simp[AN,XO];omega
 |x::y::l,h,_,hl=>by rw[Mz] at h;have:=Ri (l:=y::l) h.2 AO (by simpa using hl);rw[Kz,show(x::y::l).length-1=(y::l).length-1+1 from by simp,Hf];have:=h.1;unfold BB at*;omega
def ahc(h:n<l.length)(x:Int):l.set n x=l.take n++x::l.drop (n+1):=by rw[List.set_eq_take_append_cons_drop,if_pos h]
def Fk(h:n<=m)(x:Int):(l.set m x).take n=l.take n:=by rw[List.take_set_of_le h]
theorem getD_set_ne(h:n≠m)(x:Int):(l.set m x).getD n 0=l.getD n 0:=by grind
theorem H6(h:n<l.length)(x:Int):(l.set n x).getD n 0=x:=by grind
def Norm(w:A3 Int):Prop:=okW w/\w.getLast?≠some 0
def Norm.nil:Norm []:=⟨Xq,AO⟩
def Norm.len(h:Norm w)(j:AN w<B2 n):w.length<=n:=by
 by_cases e:w=[]
 .subst e;simp
 .have h1:=Ri h.1 e h.2;rcases G8 n w.length with g|g
  .have:B2 n<=B2 (w.length-1):=by obtain⟨k,i⟩:∃k,w.length-1=n+k:=⟨w.length-1-n,A4⟩;rw[i,cz];have a:=JP n;have b:=JP k;have:B2 n*1<=B2 n*B2 k:=E7 A4 A4;omega
   omega
  .exact g
theorem DY{a b:Bool}(h:(a&&b)=true):a=true/\b=true:=by grind
def Pw(u:okW a)(C:a.length<4611686018427387904):Yd (λw=>Norm w/\AN w=AN a/\w.length<=a.length) (Lr a):=by
 unfold Lr;refine Dl (λs:Int=>0<=s/\s<=a.length/\AN (a.take s.toNat)=AN a) (λs:Int=>s.toNat) ?_ _ _ ⟨A4,A4,AO⟩ Co;rintro next s ⟨v,t,o⟩ B
 refine FC (λi=>?_)<|λi=>?_
 .have p:0<s:=Aq i;refine⟨s-1,Dj ⟨A4,A4⟩,FC (λ_=>⟨a.getD (s-1).toNat 0,SY A4 A4,Ab (λg=>?_)<|λg=>?_⟩) (λh=>by rw[i] at h;cases h)⟩
  .let⟨_,j⟩:=DY g;have j:=Aq j;refine A5 BE<|B _ ⟨A4,A4,?_⟩ A4
   have e:s.toNat=(s-1).toNat+1:=A4;rw[e,WI A4,j,SA,Ua] at o;exact o
  .refine A5 (DV A4 v t) (AV ⟨⟨Jq u _,?_⟩,o,Co⟩);rw[B1 p,I3] at g;have j:=BX g;have e:s.toNat=(s-1).toNat+1:=A4;show(a.take s.toNat).getLast?≠some 0;rw[e,ZZ A4];simpa using j
 .have p: ¬0<s:=BX i;have p:s=0:=A4;subst p;refine FC (λh=>by rw[i] at h;cases h) (λ_=>Ab (λg=>by simp at g) (λ_=>A5 (DV A4 A4 t) (AV ⟨by simpa using Norm.nil,by simpa using o,AO⟩)))
theorem aed(ha:okW a)(hb:okW b)(W:a.length<4398046511104)(Z:b.length<4398046511104):Yd (λw=>Norm w/\AN w=AN a+AN b) (WN a b):=by
 unfold WN;refine CZ (λs:A3 Int×A3 Int=>okW s.1/\okW s.2/\s.2.length<=s.1.length/\s.1.length<4398046511104/\AN s.1+AN s.2=AN a+AN b) ?_ λk G=>Ab (λg=>?_)<|λg=>?_
 rotate_left
 .grind
 .grind
 rintro⟨x,y⟩ ⟨I,J,hl,p,L⟩;simp only at I J hl p L⊢;rw[<-L];refine A5 BE<|A5 (NU A4 A4 A4) ?_
 refine Dl (λs:A3 Int×Int×Int=>okW s.1/\s.1.length=x.length+1/\(s.2.1=0\/s.2.1=1)/\0<=s.2.2/\s.2.2<=x.length/\AN (s.1.take s.2.2.toNat)+B2 s.2.2.toNat*s.2.1=AN (x.take s.2.2.toNat)+AN (y.take s.2.2.toNat))
  (λs:A3 Int×Int×Int=>x.length-s.2.2.toNat) ?_ _ _ ⟨Tk _,by simp only[Kd];omega,.inl rfl,by dsimp;omega,by dsimp;omega,by simp[AN]⟩ (by dsimp;omega)
 rintro next ⟨o,c,i⟩ ⟨t,M,O,Q,h5,S⟩ T
 simp only at t M O Q h5 S T⊢;obtain⟨n,rfl⟩:=EI Q;simp only[CL,K3] at*;refine Ab (λg=>?_)<|λg=>?_
 .have g:=Aq g;refine CZ (λv=>v=y.getD n 0) ?_ λk G=>Ab (λj=>?_)<|λj=>?_
  .rintro v rfl;let⟨p1,p2⟩:=Ev I n;let⟨q1,q2⟩:=Ev J n;refine A5 (SY A4 A4) ?_;simp only[CL]
   generalize hX:x.getD n 0=X at*
   generalize U:y.getD n 0=Y at*
   have u:JR X Y c=some ((X+Y+c)%BB,(X+Y+c)/BB):=by unfold JR Fi;rw[B1 p1,B1 p2,B1 q1,B1 q2];rcases O with rfl|rfl<;>rfl
   refine A5 u<|A5 (SY A4 A4)<|A5 (SY A4 A4)<|A5 BE ?_
   have hdm:=MJ (X+Y+c) BB;have B:0<=(X+Y+c)%BB:=JY _ (by unfold BB;omega);have C:(X+Y+c)%BB<BB:=J8 _ (by unfold BB;omega);have hq:(X+Y+c)/BB=0\/(X+Y+c)/BB=1:=AK;refine T _ ⟨IW t _ ⟨B,C⟩,by simpa using M,hq,by dsimp;omega,by dsimp;omega,?_⟩ (by dsimp;omega);have e:(((n:Nat):Int)+1).toNat=n+1:=A4;simp[e,CL];rw[WI (by simpa using by omega),Fk<|BJ _,H6 A4,WI A4,hX,Hf];have F:AN (y.take<|n+1)=AN (y.take n)+B2 n*Y:=by
    rcases G8 n y.length with h|h
    .rw[WI h,U]
    .have:Y=0:=by rw[<-U];simp[HD,h]
     rw[this,Ce A4,Ce h];omega
   rw[F];have key:B2 n*((X+Y+c)%BB)+BB*B2 n*((X+Y+c)/BB)=B2 n*(X+Y+c):=AK;have k2:B2 n*(X+Y+c)=B2 n*X+B2 n*Y+B2 n*c:=AK;omega
  .have j:=Aq j;exact A5 (SY A4 j)<|G _ AO
  .grind
 .have g:=BX g;have Ge:n=x.length:=A4;subst Ge;refine A5 (SY A4 A4)<|A5 (SY A4 A4) ?_
  have Od:0<=c/\c<BB:=by unfold BB;omega
  refine Au (Pw (IW t x.length Od) Co) λw ⟨w1,w2,_⟩=>AV ⟨w1,?_⟩
  have V:=Pd (o.set x.length c) x.length (by rw[J6];omega);have e2:(o.set x.length c).drop x.length=[c]:=by rw[ahc A4,LC,Ke (by rw[Dd];omega)];have:(o.drop<|x.length+1)=[]:=Ke A4;rw[this,Dd,Ds A4];simp
  rw[e2,Fk<|BJ _] at V;rw[Ce (l:=x) A4,Ce (l:=y) A4] at S;rw[show AN [c]=c from by simp[AN]] at V;omega
def yn(h:n<l.length):AN l=AN (l.take n)+B2 n*(l.getD n 0+BB*AN (l.drop<|n+1)):=by
 rw[Pd l n A4]
 congr 2
 rw[SV h,Kz]
 congr 1
 simp[HD,h]
def bg(h:m<=n):B2 m<=B2 n:=by obtain⟨k,rfl⟩:∃k,n=m+k:=⟨n-m,A4⟩;rw[cz];have a:=JP m;have b:=JP k;have:B2 m*1<=B2 m*B2 k:=E7 A4 A4;omega
def Wx(i:okW a)(g:Norm b)(h:a.length<b.length):AN a<AN b:=by have j:=(FN i).2;have o:=Ri g.1 (by intro e;subst e;simp at h) g.2;have p:=bg (show a.length<=b.length-1 by omega);omega
theorem sN(j:Norm a)(o:Norm b)(t:a.length<4398046511104)(u:b.length<4398046511104):Yd (λr=>(r= -1/\AN a<AN b)\/(r=0/\AN a=AN b)\/(r=1/\AN b<AN a)) (Vt a b):=by
 unfold Vt;refine Ab (λp=>Ab (λh=>?_)<|λh=>?_)<|λp=>?_
 .have h:=Aq h;exact AV<| .inl ⟨rfl,Wx j.1 o A4⟩
 .have h:=BX h;rw[F6,Gm] at p;exact AV<| .inr<| .inr ⟨rfl,Wx o.1 j A4⟩
 .rw[Uo,G0] at p;have v:a.length=b.length:=A4;refine A5 BE ?_;refine Dl (λs:Int=> -1<=s/\s<a.length/\a.drop (s+1).toNat=b.drop (s+1).toNat) (λs:Int=>(s+1).toNat) ?_ _ _ ⟨A4,A4,?_⟩ A4
  .rintro next s ⟨h0,h1,h2⟩ hn
   refine Ab (λg=>?_)<|λg=>?_
   .have g:=Aq g;obtain⟨n,rfl⟩:=EI g;have B:(((n:Nat):Int)+1).toNat=n+1:=A4;rw[B] at h2;refine A5 (Bc A4)<|A5 (Bc A4) ?_
    have C:=yn (l:=a) (n:=n) A4;have V:=yn (l:=b) (n:=n) A4;rw[h2] at C;let⟨F,G⟩:=FN<|Jq j.1 n
    let⟨I,J⟩:=FN<|Jq o.1 n
    rw[Dd,Ds A4] at G J;have L:=JP n;have M:AB a (n:Int)=some (a.getD n 0):=Bc A4;have O:AB b (n:Int)=some (b.getD n 0):=Bc A4;have Q:a.drop n=a.getD n 0::a.drop (n+1):=by
     rw[SV (show n<a.length by omega)]
     congr 1
     simp[HD,show n<a.length by omega]
    have S:b.drop n=b.getD n 0::b.drop (n+1):=by
     rw[SV (show n<b.length by omega)]
     congr 1
     simp[HD,show n<b.length by omega]
    generalize a.getD n 0=X at*
    generalize b.getD n 0=Y at*
    have T:AN a=AN (a.take n)+B2 n*X+B2 n*(BB*AN (b.drop<|n+1)):=AK;have U:AN b=AN (b.take n)+B2 n*Y+B2 n*(BB*AN (b.drop<|n+1)):=AK;refine Ab (λi=>?_)<|λi=>?_
    .rw[F6,Gm] at i;refine A5 M<|A5 O<|Ab (λe=>?_)<|λe=>?_
     .have e:=Aq e;have:B2 n*(X+1)<=B2 n*Y:=E7 A4 A4;rw[Cy,JS] at this;exact AV<| .inl ⟨rfl,A4⟩
     .have e:=BX e;have:B2 n*(Y+1)<=B2 n*X:=E7 A4 A4;rw[Cy,JS] at this;exact AV<| .inr<| .inr ⟨rfl,A4⟩
    .rw[Uo,G0] at i;refine A5 BE<|hn _ ⟨A4,A4,?_⟩ A4
     have:(((n:Nat):Int)-1+1).toNat=n:=A4;rw[this,Q,S,i,h2]
   .have g:=BX g;have:s= -1:=A4;subst this;exact AV (.inr (.inl ⟨rfl,by simpa using congrArg AN h2⟩))
  .have:((a.length:Int)-1+1).toNat=a.length:=A4;rw[this,QJ,v,QJ]
theorem oQ{c:Int}(e:0<=X/\X<BB)(g:0<=Y/\Y<BB)(i:c=0\/c=1):∃r d:Int,QA X Y c=some (r,d)/\0<=r/\r<BB/\(d=0\/d=1)/\X-Y-c=r-BB*d:=by
 have h:QA X Y c=some ((X-Y-c)%FF,bif decide (X<Y+c) then 1 else 0):=by unfold QA Fi;rw[B1 e.1,B1 e.2,B1 g.1,B1 g.2];rcases i with rfl|rfl<;>rfl
 refine⟨_,_,h,JY _ (by unfold FF;omega),J8 _ (by unfold FF;omega),?_,?_⟩
 .grind
 .unfold FF BB at*;by_cases h:X<Y+c
  .grind
  .grind
def V2{c:Int}(e:0<=X/\X<BB)(g:0<=Y/\Y<BB)(i:c=0\/c=1):∃r d:Int,JR X Y c=some (r,d)/\0<=r/\r<BB/\(d=0\/d=1)/\X+Y+c=r+BB*d:=by
 have h:JR X Y c=some ((X+Y+c)%FF,(X+Y+c)/FF):=by unfold JR Fi;rw[B1 e.1,B1 e.2,B1 g.1,B1 g.2];rcases i with rfl|rfl<;>rfl
 refine⟨_,_,h,JY _ (by unfold FF;omega),J8 _ (by unfold FF;omega),?_,?_⟩
 .unfold FF BB at*;omega
 .have:=MJ (X+Y+c) FF;unfold FF BB at*;omega
def dR(g:0<=X/\X<BB)(e:0<=Y/\Y<BB):∃hi lo:Int,OC X Y=some (hi,lo)/\0<=hi/\hi<=BB-2/\0<=lo/\lo<BB/\X*Y=lo+BB*hi:=by
 have h:OC X Y=some (X*Y/FF,X*Y%FF):=by
  unfold OC Fi;rw[B1 g.1,B1 g.2,B1 e.1,B1 e.2]
  rfl
 have t:=MJ (X*Y) FF;have i:0<=X*Y:=J4 g.1 e.1;have u:X*Y<=(BB-1)*(BB-1):=NA A4 A4 e.1 (by unfold BB;omega);have j:0<=X*Y%FF:=JY _ (by unfold FF;omega);have o:X*Y%FF<FF:=J8 _ (by unfold FF;omega);refine⟨_,_,h,?_,?_,j,o,?_⟩
 .exact J5 i (by unfold FF;omega)
 .generalize X*Y/FF=q at*
  generalize X*Y%FF=r at*
  generalize X*Y=p at*
  unfold FF BB at*;omega
 .unfold FF BB at*;omega
theorem fB(h:l.length<=n):l.getD n 0=0:=by grind
def EN(l:A3 Int)(n:Nat):AN (l.take<|n+1)=AN (l.take n)+B2 n*l.getD n 0:=by
 rcases G8 n l.length with h|h
 .exact WI h
 .rw[fB h,Ce A4,Ce h];omega
theorem uD(F:okW a)(G:okW b)(Z:b.length<=a.length)(I:a.length<4398046511104)(hv:AN b<=AN a):Yd (λw=>Norm w/\AN w=AN a-AN b) (WM a b):=by
 unfold WM;refine A5 (NU A4 A4 A4) ?_;refine Dl (λs:A3 Int×Int×Int=>okW s.1/\s.1.length=a.length/\(s.2.1=0\/s.2.1=1)/\0<=s.2.2/\s.2.2<=a.length/\AN (s.1.take s.2.2.toNat)=AN (a.take s.2.2.toNat)-AN (b.take s.2.2.toNat)+B2 s.2.2.toNat*s.2.1)
  (λs:A3 Int×Int×Int=>a.length-s.2.2.toNat) ?_ _ _ ⟨Tk _,by simp only[Kd];omega,.inl rfl,BO,BO,by simp[AN]⟩ BO
 rintro next ⟨o,c,i⟩ ⟨h,j,p,u,J,B⟩ C
 simp only at h j p u J B C⊢;obtain⟨n,rfl⟩:=EI u;simp only[CL,K3] at*;refine Ab (λg=>?_)<|λg=>?_
 .have g:=Aq g;refine CZ (λv=>v=b.getD n 0) ?_ λk L=>Ab (λt=>?_)<|λt=>?_
  .rintro v rfl;let⟨r,d,M,O,Q,S,e5⟩:=oQ (Ev F n) (Ev G n) p;refine A5 (Bc A4)<|A5 M<|A5 (Bc A4)<|A5 (Bc A4)<|A5 BE ?_
   refine C _ ⟨IW h _ ⟨O,Q⟩,by simpa using j,S,BO,BO,?_⟩ BO;have e:(((n:Nat):Int)+1).toNat=n+1:=A4;simp only[e,CL];rw[EN,Fk<|BJ _,H6 A4,EN a,EN b,Hf]
   generalize a.getD n 0=X at*
   generalize b.getD n 0=Y at*
   have key:B2 n*(X-Y-c)=B2 n*r-BB*B2 n*d:=AK;have k2:B2 n*(X-Y-c)=B2 n*X-B2 n*Y-B2 n*c:=AK;omega
  .have t:=Aq t;exact A5 (Bc A4)<|L _ rfl
  .grind
 .have g:=BX g;have T:n=a.length:=A4;subst T;refine Au (Pw h A4) λw ⟨U,V,_⟩=>AV ⟨U,?_⟩
  rw[V];rw[Ce (l:=o) A4,Ce (l:=a) A4,Ce (l:=b) A4] at B;have W:=(FN h).2;rw[j] at W;have hp:=JP a.length;rcases p with rfl|rfl
  .omega
  .omega
def adT(h:AN (l.drop n)=0)(e:okW l)(i:n<=m):l.getD m 0=0:=by
 have key:∀(l:A3 Int) (j:Nat),okW l->AN l=0->l.getD j 0=0:=by
  intro l
  induction l with
  |nil=>intro j _ _;simp
  |cons x l ih=>intro j e g;rw[Mz] at e;rw[Kz] at g;have o:=(FN e.2).1;have p:=e.1;unfold BB at*;cases j with|zero=>simp;omega|succ j=>simpa using ih j e.2 A4
 have:=key (l.drop n) (m-n) (Pu e n) h;simpa[HD,SK,show n+(m-n)=m by omega] using this
theorem aec(O:okW a)(Q:okW b)(Z:a.length<2199023255552)(hlb:b.length<2199023255552):Yd (λw=>Norm w/\AN w=AN a*AN b) (Zf a b):=by
 unfold Zf;refine A5 BE<|A5 (NU A4 A4 A4) ?_
 refine Dl (λs:A3 Int×Int=>okW s.1/\s.1.length=a.length+b.length/\0<=s.2/\s.2<=a.length/\AN (s.1.take<|s.2.toNat+b.length)=AN (a.take s.2.toNat)*AN b)
  (λs:A3 Int×Int=>a.length-s.2.toNat) ?_ _ _ ⟨Tk _,by simp only[Kd];omega,BO,BO,?_⟩ BO
 rotate_left
 .dsimp only;rw[YD,jf];simp[AN]
 rintro next ⟨o,i⟩ ⟨F,S,T,h4,C⟩ U
 simp only at F S T h4 C U⊢;obtain⟨n,rfl⟩:=EI T;simp only[CL,K3] at*;refine Ab (λt=>?_)<|λt=>?_
 .have t:=Aq t;refine A5 (Bc A4) ?_;refine Dl (λs:A3 Int×Int×Int=>okW s.1/\s.1.length=a.length+b.length/\(0<=s.2.1/\s.2.1<BB)/\0<=s.2.2/\s.2.2<=b.length/\s.1.drop (n+s.2.2.toNat)=o.drop (n+s.2.2.toNat)/\
    AN (s.1.take<|n+s.2.2.toNat)+B2 (n+s.2.2.toNat)*s.2.1=AN (o.take<|n+s.2.2.toNat)+B2 n*(a.getD n 0*AN (b.take s.2.2.toNat)))
   (λs:A3 Int×Int×Int=>b.length-s.2.2.toNat) ?_ _ _ ⟨F,S,⟨BO,by dsimp only;unfold BB;omega⟩,BO,BO,rfl,by simp[AN]⟩ BO
  rintro Gi ⟨p,c,j⟩ ⟨u,G,I,V,g5,J,L⟩ W;simp only at u G I V g5 J L W⊢;obtain⟨m,rfl⟩:=EI V;simp only[CL,K3] at*;have eo:p.getD (n+m) 0=o.getD (n+m) 0:=by have:=congrArg (λl=>l.getD 0 0) J;simpa[HD,SK] using this
  refine Ab (λv=>?_)<|λv=>?_
  .have v:=Aq v;let⟨hi,lo,m1,m2,m3,m4,m5,m6⟩:=dR (Ev O n)<|Ev Q m
   let⟨r1,g,a1,a2,a3,a4,a5⟩:=V2 (X:=lo) (Y:=p.getD (n+m) 0) (c:=0) ⟨m4,m5⟩ (Ev u _)<| .inl rfl
   let⟨r2,B,b1,b2,b3,b4,b5⟩:=V2 (X:=r1) (Y:=c) (c:=0) ⟨a2,a3⟩ I<| .inl rfl
   have h:((n:Nat):Int)+((m:Nat):Int)=((n+m:Nat):Int):=A4;rw[h];refine A5 (Bc A4)<|A5 m1<|A5 BE<|A5 (Bc A4)<|A5 (Bc A4)<|A5 a1<|A5 b1<|A5 BE<|A5 (Bc A4)<|A5 (Bc A4)<|A5 BE ?_
   let⟨xa,xb⟩:=Ev O n;let⟨ya,yb⟩:=Ev Q m;let⟨oa,ob⟩:=Ev u<|n+m
   have Kn:a.getD n 0*b.getD m 0<=(BB-1)*(BB-1):=NA A4 A4 ya (by unfold BB;omega);have hD:BB*(hi+g+B)=a.getD n 0*b.getD m 0+p.getD (n+m) 0+c-r2:=AK;have M:hi+g+B<BB:=AK;have hw:wr .u64 (wr .u64 (hi+g)+B)=hi+g+B:=by have e1:wr .u64 (hi+g)=hi+g:=wrap_u64 ⟨A4,by unfold BB at*;omega⟩;rw[e1];exact wrap_u64 ⟨A4,by unfold BB at*;omega⟩
   dsimp only;rw[hw];refine W _ ⟨IW u _ ⟨b2,b3⟩,by simpa using G,⟨BO,M⟩,BO,BO,?_,?_⟩ BO
   .have e:(((m:Nat):Int)+1).toNat=m+1:=A4;simp only[e,CL];rw[eF A4,<-Iw];have:=congrArg (List.drop 1) J;rwa [Ee,Ee] at this
   .have e:(((m:Nat):Int)+1).toNat=m+1:=A4;simp only[e,CL];rw[<-Iw,EN,Fk<|BJ _,H6 A4,EN o,EN b,<-eo,Hf];have k1:B2 n*(a.getD n 0*(AN (b.take m)+B2 m*b.getD m 0))=B2 n*(a.getD n 0*AN (b.take m))+B2 (n+m)*(a.getD n 0*b.getD m 0):=by rw[Cy,Cy,cz,FA (a.getD n 0)<|B2 m,EV]
    have k2:B2 (n+m)*r2+BB*B2 (n+m)*(hi+g+B)=B2 (n+m)*(a.getD n 0*b.getD m 0)+B2 (n+m)*p.getD (n+m) 0+B2 (n+m)*c:=AK;rw[k1];omega
  .have v:=BX v;have Lg:m=b.length:=A4;subst Lg;have h:((n:Nat):Int)+((b.length:Nat):Int)=((n+b.length:Nat):Int):=A4;rw[h];refine A5 BE<|A5 (Bc A4)<|A5 (Bc A4)<|A5 BE ?_
   refine U _ ⟨IW u _ I,by simpa using G,BO,BO,?_⟩ BO;have e:(((n:Nat):Int)+1).toNat=n+1:=A4;simp only[e,CL];rw[show n+1+b.length=(n+b.length)+1 from by omega,EN,Fk<|BJ _,H6 A4,EN a,GQ];rw[Ce (l:=b) A4,C] at L;rw[L,EV]
 .have t:=BX t;have Ge:n=a.length:=A4;subst Ge;refine Au (Pw F A4) λw ⟨w1,w2,_⟩=>AV ⟨w1,?_⟩
  rw[w2];rw[Ce (l:=o) A4,Ce (l:=a) A4] at C;exact C
def wrW(n:Int):IntKind.wrap .u64 n=n%BB:=by
 unfold IntKind.wrap
 rfl
def Gx{n:Int}(h:0<=n/\n<BB):IntKind.wrap .u64 n=n:=by rw[wrW,SJ h.1 h.2]
theorem aBR(g:0<=x)(h:0<=y)(u:y<2^s)(v:x%2^s=0)(B:x+y<BB):FH .or .u64 x y=x+y:=by
 obtain⟨a,rfl⟩:=EI g;obtain⟨b,rfl⟩:=EI h;have i:b<2^s:=AK;have j:a%2^s=0:=AK;have o:a|||b=a+b:=by
  have e:a=2^s*(a/2^s):=by have:=Nat.div_add_mod a (2^s);omega
  rw[e,<-Nat.two_pow_add_eq_or_of_lt i]
 have C:a+b<2^64:=AK;unfold FH;show IntKind.wrap .u64 ((BitVec.ofInt 64 a|||BitVec.ofInt 64 b).toNat:Int)=_;have p:BitVec.ofInt 64 (a:Int)=BitVec.ofNat 64 a:=eJ ..;have t:BitVec.ofInt 64 (b:Int)=BitVec.ofNat 64 b:=eJ ..;rw[p,t,BitVec.toNat_or,dz,dz,QK A4,QK A4,o];exact Gx ⟨A4,A4⟩
theorem ye(e:0<=x/\x<BB):FH .and .u64 x 4294967295=x%4294967296:=by obtain⟨a,rfl⟩:=EI e.1;have g:a<2^64:=AK;unfold FH;show IntKind.wrap .u64 ((BitVec.ofInt 64 a&&&BitVec.ofInt 64 ((4294967295:Nat):Int)).toNat:Int)=_;have h:BitVec.ofInt 64 (a:Int)=BitVec.ofNat 64 a:=eJ ..;have i:BitVec.ofInt 64 ((4294967295:Nat):Int)=BitVec.ofNat 64 4294967295:=eJ ..;rw[h,i,BitVec.toNat_and,dz,dz,QK g,QK A4,show 4294967295=2^32-1 from rfl,Nat.and_two_pow_sub_one_eq_mod];have:a%2^32<2^32:=M1 _ A4;rw[Gx ⟨A4,by unfold BB;omega⟩];omega
def iE(e:s<=64):KC .u64 x (s:Int)=some (x/2^s):=by
 rw[ane A4]
 congr 1
 rw[CL,Ds<|show s<=IntKind.bits .u64 from e];exact Int.fdiv_eq_ediv_of_nonneg _<|Dr<|Int.pow_pos A4
def iF(e:s<=64):KD .u64 x (s:Int)=some (x*2^s%BB):=by
 rw[anf A4]
 congr 1
 rw[CL,Ds<|show s<=IntKind.bits .u64 from e,wrW]
def Zp(h:s<=64):(2:Int)^s*2^(64-s)=BB:=by rw[<-Int.pow_add,show s+(64-s)=64 from by omega];rfl
def two_pos(s:Nat):(0:Int)<2^s:=Int.pow_pos A4
def uV(p:s<=64)(t:0<=x/\x<BB):∃lo hi:Int,KD .u64 x (s:Int)=some lo/\KC .u64 x ((64:Int)-(s:Int))=some hi/\0<=lo/\lo<BB/\0<=hi/\hi<2^s/\lo%2^s=0/\x*2^s=lo+BB*hi:=by
 have i:((64:Int)-(s:Int))=((64-s:Nat):Int):=A4;have j:=Zp p;have u:=two_pos s;have o:=two_pos<|64-s
 have e:x*2^s=(x%2^(64-s))*2^s+BB*(x/2^(64-s)):=by
  conv=>lhs;rw[<-MJ x (2^(64-s))]
  rw[GQ,<-j,Int.mul_right_comm,EO (2^(64-s))<|2^s]
 have v:=JY x (show(2:Int)^(64-s)≠0 by omega);have r1:=J8 x o;have g:(x%2^(64-s))*2^s<BB:=by rw[<-j,EO];exact Int.mul_lt_mul_of_pos_left r1 u
 have h:0<=(x%2^(64-s))*2^s:=J4 v<|Dr u
 refine⟨(x%2^(64-s))*2^s,x/2^(64-s),?_,?_,h,g,J5 t.1<|Dr o,?_,Int.mul_emod_left _ _,e⟩
 .rw[iF p,e,Int.add_mul_emod_self_left,SJ h g]
 .rw[i,iE A4]
 .refine YE o ?_;rw[j];exact t.2
structure HS(y1 y0 N d q r:Int):Prop where
 q0:0<=q
 q1:q<=4294967297
 e:q*y1+r=N
 r0:0<=r
 r1:r<4294967296
 up:N*4294967296+d<(q+1)*(y1*4294967296+y0)
structure HQ(y1 y0 N d q:Int):Prop where
 q0:0<=q
 q1:q<4294967296
 lo:q*(y1*4294967296+y0)<=N*4294967296+d
 up:N*4294967296+d<(q+1)*(y1*4294967296+y0)
structure HP(y1 y0 N d:Int):Prop where
 a0:2147483648<=y1
 a1:y1<4294967296
 b0:0<=y0
 b1:y0<4294967296
 n0:0<=N
 n1:N<y1*4294967296+y0
 d0:0<=d
 d1:d<4294967296
def zr(p:HP y1 y0 N d):HS y1 y0 N d (N/y1) (N-N/y1*y1):=by
 let⟨a0,o,g,t,i,u,v,B⟩:=p;have j:=MJ N y1;have C:=JY N (show y1≠0 by omega);have F:=J8 N (show 0<y1 by omega);have e:0<=N/y1:=J5 i A4
 generalize N/y1=q at*
 generalize N%y1=r at*
 rw[EO y1 q] at j;refine⟨e,?_,A4,A4,A4,?_⟩
 .have:q<=4294967297\/4294967298<=q:=A4;rcases this with h|h
  .exact h
  .have:4294967298*y1<=q*y1:=Kf h A4;omega
 .have hq:0<=q*y0:=J4 e g;rw[GQ,Cy,<-EV];omega
def aan{r:Int}(p:HP y1 y0 N d)(h:HS y1 y0 N d q r)(j: ¬4294967296<=q)(o: ¬4294967296*r+d<q*y0):HQ y1 y0 N d q:=by let⟨a0,t,u,v,B,C,F,G⟩:=p;let⟨g,q1,e,I,r1,i⟩:=h;refine⟨g,A4,?_,i⟩;rw[Cy,<-EV];omega
theorem gj{r:Int}(p:HP y1 y0 N d)(h:HS y1 y0 N d q r)(g:4294967296<=q\/4294967296*r+d<q*y0):1<=q/\N*4294967296+d<(q-1+1)*(y1*4294967296+y0):=by
 let⟨a0,j,o,t,u,v,B,C⟩:=p;let⟨F,q1,e,G,r1,I⟩:=h;have i:q-1+1=q:=A4;rw[i,Cy,<-EV];rcases g with g|g
 .refine⟨A4,?_⟩;have J:4294967296*y1<=q*y1:=Kf g A4;have L:4294967296*y0<=q*y0:=Kf g A4;omega
 .grind
theorem yC{r:Int}(p:HP y1 y0 N d)(h:HS y1 y0 N d q r)(g:4294967296<=q\/4294967296*r+d<q*y0)(o:4294967296<=r+y1):HQ y1 y0 N d (q-1):=by
 let⟨t,i⟩:=gj p h g;let⟨a0,u,j,v,B,C,F,G⟩:=p;let⟨I,q1,e,J,r1,L⟩:=h;have M:(q-1)*y0<=4294967296*y0:=Kf A4 j;have O:(q-1)*y1=q*y1-y1:=AK;have lo:(q-1)*(y1*4294967296+y0)<=N*4294967296+d:=AK;refine⟨A4,?_,lo,i⟩;have:q-1<4294967296\/4294967296<=q-1:=A4;rcases this with h|h
 .exact h
 .grind
theorem zq{r:Int}(p:HP y1 y0 N d)(h:HS y1 y0 N d q r)(g:4294967296<=q\/4294967296*r+d<q*y0)(j:r+y1<4294967296):HS y1 y0 N d (q-1) (r+y1):=by let⟨o,i⟩:=gj p h g;let⟨a0,t,u,v,B,C,F,G⟩:=p;let⟨I,q1,e,J,r1,L⟩:=h;have M:(q-1)*y1=q*y1-y1:=AK;exact⟨A4,A4,A4,A4,A4,i⟩
theorem zt{r:Int}(p:HP y1 y0 N d)(h:HS y1 y0 N d q r):((decide<|4294967296<=q)||(decide<|(IntKind.wrap .u64<|(IntKind.wrap .u64<|4294967296*r)+d)<(IntKind.wrap .u64<|q*y0)))=decide (4294967296<=q\/4294967296*r+d<q*y0):=by
 let⟨a0,o,g,t,u,v,B,C⟩:=p;let⟨j,q1,e,F,r1,G⟩:=h;rw[Gx (n:=4294967296*r) ⟨A4,by unfold BB;omega⟩,Gx (n:=4294967296*r+d) ⟨A4,by unfold BB;omega⟩];by_cases i:4294967296<=q
 .grind
 .have h1:0<=q*y0:=J4 j g;have I:q*y0<=4294967295*4294967295:=NA A4 A4 g A4;rw[Gx (n:=q*y0) ⟨h1,by unfold BB;omega⟩,Bb i,SD]
  congr 1
  simp[i]
def zu(p:HP y1 y0 N d)(h:HQ y1 y0 N d q)(e:y=y1*4294967296+y0):IntKind.wrap .u64 (IntKind.wrap .u64 (IntKind.wrap .u64 (N*4294967296)+d)-IntKind.wrap .u64 (q*y))=N*4294967296+d-q*y:=by
 let⟨a0,i,j,o,t,u,v,B⟩:=p;let⟨C,q1,lo,g⟩:=h;subst e;simp only[wrW];rw[GQ,H9] at g
 generalize q*(y1*4294967296+y0)=Z at*
 unfold BB;omega
def XD(h:n≠0):2^Nat.log2 n<=n/\n<2^(Nat.log2 n+1):=⟨Nat.log2_self_le h,Nat.lt_log2_self⟩
theorem aEz(i:0<y)(j:y<BB):∃s:Nat,V9 y=some (s:Int)/\s<=63/\BB<=2*(y*2^s)/\y*2^s<BB:=by
 obtain⟨n,rfl⟩:=EI<|Dr i
 have g:n≠0:=A4;let⟨l1,o⟩:=XD g;have t:Nat.log2 n<=63:=by
  have:Nat.log2 n<64:=by rw[N7 g];have:n<18446744073709551616:=AK;exact this
  omega
 refine⟨63-Nat.log2 n,?_,A4,?_,?_⟩
 .unfold V9 Fi;rw[B1 (show(0:Int)<=(n:Int) by omega),B1<|show((n:Nat):Int)<18446744073709551616 from j];show some (64-((LQ ((n:Nat):Int).toNat:Nat):Int))=_;have:LQ n=Nat.log2 n+1:=by
   unfold LQ;have:Nat.beq n 0=false:=by cases p:Nat.beq n 0 with|false=>rfl|true=>exact absurd (DX p) g
   rw[this];rfl
  rw[CL,this]
  congr 1;omega
 .have e:2^(63-Nat.log2 n)*2^Nat.log2 n=2^63:=by rw[<-KU];congr 1;omega
  have:2^63<=2^(63-Nat.log2 n)*n:=by rw[<-e];exact YC _ l1
  have h:(2:Int)^63<=2^(63-Nat.log2 n)*(n:Int):=AK;rw[EO] at h;unfold BB;omega
 .have e:2^(63-Nat.log2 n)*2^(Nat.log2 n+1)=2^64:=by rw[<-KU];congr 1;omega
  have:2^(63-Nat.log2 n)*n<2^64:=by rw[<-e];exact Nat.mul_lt_mul_of_pos_left o<|Nat.two_pow_pos _
  have h:2^(63-Nat.log2 n)*(n:Int)<(2:Int)^64:=AK;rw[EO] at h;unfold BB;omega
def o4(e:0<=x/\x<BB)(g:0<y):TB .u64 x y=some (x/y):=by unfold TB;rw[Bb (show¬y=0 by omega)];show some (IntKind.wrap .u64<|x.tdiv y)=_;rw[Int.tdiv_eq_ediv_of_nonneg e.1,Gx ⟨J5 e.1<|Dr g,Int.lt_of_le_of_lt (QI _ e.1) e.2⟩]
theorem OA(e:0<=x)(g:0<y):Ex x y=some (x%y):=by grind [Ex]
def aac:KC .u64 x 32=some (x/4294967296):=iE (s:=32) A4
theorem wu{hi lo:Int}(t:0<=hi/\hi<y)(C:0<=lo/\lo<BB)(hy:y<BB):Yd (λp=>(0<=p.1/\p.1<BB)/\(0<=p.2/\p.2<y)/\hi*BB+lo=p.1*y+p.2) (Vw hi lo y):=by
 unfold Vw;dsimp only[wr];refine Ab (λi=>absurd (Aq i) A4)<|λ_=>Ab (λi=>absurd (Aq i) A4)<|λ_=>Ab (λF=>?_)<|λF=>?_
 .have F:=Aq F;subst F;refine A5 (o4 C t.2)<|A5 (OA C.1 t.2)<|AV ⟨⟨J5 C.1 A4,Int.lt_of_le_of_lt (QI _ C.1) C.2⟩,⟨JY _ A4,J8 _ t.2⟩,?_⟩
  have:=MJ lo y;rw[EO] at this;dsimp only;omega
 .have F:=BX F;let⟨s,l1,l2,l3,S⟩:=aEz (y:=y) A4 hy;have ws:IntKind.wrap .u64 (s:Int)=s:=Gx ⟨A4,by unfold BB;omega⟩;have T:IntKind.wrap .u64 ((64:Int)-s)=64-s:=Gx ⟨A4,by unfold BB;omega⟩;have ps:=two_pos s;have hgt:hi*2^s+2^s<=y*2^s:=by
   have:(hi+1)*2^s<=y*2^s:=Kf A4<|Dr ps
   rw[GQ,H9] at this;exact this
  have hn:0<=hi*2^s:=J4 t.1<|Dr ps
  let⟨u0,O,G,e2,a1,a2,a3,a4,a5,a6⟩:=uV (x:=lo) (s:=s) A4 C;have eY:KD .u64 y (s:Int)=some (y*2^s):=by rw[iF A4,SJ A4 S]
  have eH:KD .u64 hi (s:Int)=some (hi*2^s):=by rw[iF A4,SJ hn A4]
  have eO:FH .or .u64 (hi*2^s) O=hi*2^s+O:=aBR (s:=s) hn a3 a4 (Int.mul_emod_left _ _) A4;refine A5 l1 ?_;rw[ws,T];refine A5 eY<|A5 aac<|A5 eH<|A5 e2<|A5 G<|A5 aac ?_
  rw[eO,ye (x:=u0) ⟨a1,a2⟩,ye (x:=y*2^s) ⟨A4,S⟩];have iC:hi*BB*2^s+lo*2^s=(hi*2^s+O)*BB+u0:=AK
  generalize U:y*2^s=Y at*
  generalize hNd:hi*2^s+O=N at*
  have I:2147483648<=Y/4294967296:=AK;have J:Y/4294967296<4294967296:=AK;have Q:Y=Y/4294967296*4294967296+Y%4294967296:=A4;have j:HP (Y/4294967296) (Y%4294967296) N (u0/4294967296):=⟨I,J,A4,A4,A4,A4,A4,by unfold BB at*;omega⟩;have hu:u0=u0/4294967296*4294967296+u0%4294967296:=A4;have V:0<=u0%4294967296:=A4;have W:u0%4294967296<4294967296:=A4;have hYB:Y<BB:=S
  generalize Y/4294967296=y1 at*
  generalize Y%4294967296=y0 at*
  generalize u0/4294967296=d1 at*
  generalize u0%4294967296=d0 at*
  have hN:0<=N/\N<BB:=⟨j.n0,A4⟩;refine A5 (o4 hN A4) ?_;refine CZ (HQ y1 y0 N d1) ?_ ?_
  .intro q1 hq1;rw[zu j hq1 Q];have g1:=hq1.lo;have g2:=hq1.up;rw[<-Q] at g1 g2;rw[GQ,H9] at g2;have o:HP y1 y0 (N*4294967296+d1-q1*Y) d0:=⟨I,J,j.b0,j.b1,A4,A4,V,W⟩
   generalize hM:N*4294967296+d1-q1*Y=M at*
   refine A5 (o4 ⟨o.n0,A4⟩ A4) ?_;refine CZ (HQ y1 y0 M d0) ?_ ?_
   .intro q0 hq0;rw[zu o hq0 Q];have f1:=hq0.lo;have f2:=hq0.up;rw[<-Q] at f1 f2;rw[GQ,H9] at f2;have VA:hi*BB*2^s+lo*2^s=(q1*4294967296+q0)*Y+(M*4294967296+d0-q0*Y):=AK
    generalize hR:M*4294967296+d0-q0*Y=R at*
    have Z:0<=R:=A4;have hR1:R<Y:=A4;refine A5 (iE A4)<|AV ?_
    have q1a:=hq1.q0;have q1b:=hq1.q1;have q0a:=hq0.q0;have q0b:=hq0.q1;have eq:IntKind.wrap .u64 (IntKind.wrap .u64 (q1*4294967296)+q0)=q1*4294967296+q0:=by rw[Gx (n:=q1*4294967296) ⟨A4,by unfold BB;omega⟩,Gx ⟨A4,by unfold BB;omega⟩]
    dsimp only;rw[eq];have L:R=2^s*(hi*BB+lo-(q1*4294967296+q0)*y):=AK;have hdd:R/2^s=hi*BB+lo-(q1*4294967296+q0)*y:=by rw[L,pQ _ A4]
    refine⟨⟨A4,by unfold BB;omega⟩,⟨J5 Z A4,YE ps (by rw[U];exact hR1)⟩,?_⟩;rw[hdd];omega
   .intro k hk;have g:=zr o;have w1:0<=M/y1:=J5 o.n0 A4;have G:IntKind.wrap .u64 (M-IntKind.wrap .u64 (M/y1*y1))=M-M/y1*y1:=by have:=g.e;have:=g.r0;have:=g.r1;have h1:0<=M/y1*y1:=J4 w1 A4;rw[Gx (n:=M/y1*y1) ⟨h1,by have:=o.n1;omega⟩,Gx ⟨A4,by unfold BB;omega⟩]
    rw[G];refine Dl (λs:Int×Int=>HS y1 y0 M d0 s.2 s.1) (λs:Int×Int=>s.2.toNat) ?_ _ _ g (by have:=g.q0;have:=g.q1;dsimp only;omega);rintro next ⟨r,q⟩ h u
    dsimp only at h⊢;rw[zt o h];have v:IntKind.wrap .u64 (r+y1)=r+y1:=Gx ⟨by have:=h.r0;omega,by have:=h.r1;unfold BB;omega⟩;refine Ab (λi=>?_)<|λi=>?_
    .have i:=Aq i;have hup:=(gj o h i).1;have wq:IntKind.wrap .u64 (q-1)=q-1:=Gx ⟨A4,by have:=h.q1;unfold BB;omega⟩;simp only[v,wq];refine Ab (λB=>?_)<|λB=>?_
     .exact hk _<|yC o h i<|Aq B
     .exact u _ (zq o h i (by have:=BX B;omega)) BO
    .have i:=BX i;exact hk _<|aan o h (λa=>i<| .inl a)<|λa=>i<| .inr a
  .intro k hk;have g:=zr j;have w1:0<=N/y1:=J5 j.n0 A4;have G:IntKind.wrap .u64 (N-IntKind.wrap .u64 (N/y1*y1))=N-N/y1*y1:=by have:=g.e;have:=g.r0;have:=g.r1;have h1:0<=N/y1*y1:=J4 w1 A4;rw[Gx (n:=N/y1*y1) ⟨h1,A4⟩,Gx ⟨A4,by unfold BB;omega⟩]
   rw[G];refine Dl (λs:Int×Int=>HS y1 y0 N d1 s.1 s.2) (λs:Int×Int=>s.1.toNat) ?_ _ _ g (by have:=g.q0;have:=g.q1;dsimp only;omega);rintro next ⟨q,r⟩ h u
   dsimp only at h⊢;rw[zt j h];have v:IntKind.wrap .u64 (r+y1)=r+y1:=Gx ⟨by have:=h.r0;omega,by have:=h.r1;unfold BB;omega⟩;refine Ab (λi=>?_)<|λi=>?_
   .have i:=Aq i;have hup:=(gj j h i).1;have wq:IntKind.wrap .u64 (q-1)=q-1:=Gx ⟨A4,by have:=h.q1;unfold BB;omega⟩;simp only[v,wq];refine Ab (λB=>?_)<|λB=>?_
    .exact hk _<|yC j h i<|Aq B
    .exact u _ (zq j h i (by have:=BX B;omega)) BO
   .have i:=BX i;exact hk _<|aan j h (λa=>i<| .inl a)<|λa=>i<| .inr a
theorem ak3:(List.replicate n (0:Int)).getD m 0=0:=by grind
def xw{lo:Int}(i:s<=64)(h:lo%2^s=0)(o:lo<BB):lo+2^s<=BB:=by
 have e:=MJ lo<|2^s
 rw[h] at e;have t:=Zp i;have p:=two_pos s
 generalize lo/2^s=k at*
 have j:k<2^(64-s):=by
  rcases(show k<2^(64-s)\/2^(64-s)<=k by omega) with g|g
  .exact g
  .have:=E7 g (Dr p);omega
 have:=E7 (show k+1<=2^(64-s) from j)<|Dr p
 rw[Cy,JS] at this;omega
def yd(e:0<=x)(g:0<=y)(h:y<2^s)(i:x%2^s=0)(j:x+y<BB):FH .or .u64 y x=x+y:=by rw[<-aBR e g h i j];unfold FH;dsimp only;rw[BitVec.or_comm]
theorem uY(T:okW a)(hs:s<=63)(hl:a.length<2199023255552):Yd (λw=>okW w/\w.length=a.length+1/\AN w=AN a*2^s) (WX a (s:Int)):=by
 unfold WX;refine A5 BE<|A5 (NU A4 A4 A4) ?_
 have ps:=two_pos s;refine Dl (λt:A3 Int×Int=>okW t.1/\t.1.length=a.length+1/\0<=t.2/\t.2<=a.length/\t.1.getD t.2.toNat 0<2^s/\(∀m,t.2.toNat<m->t.1.getD m 0=0)/\AN (t.1.take<|t.2.toNat+1)=AN (a.take t.2.toNat)*2^s)
  (λt:A3 Int×Int=>a.length-t.2.toNat) ?_ _ _ ⟨Tk _,by simp only[Kd];omega,BO,BO,?_,?_,?_⟩ BO
 rotate_left
 .grind
 .grind
 .dsimp only;rw[YD,jf];simp[AN]
 rintro next ⟨o,i⟩ ⟨g,u,L,U,M,v,B⟩ O
 simp only at g u L U M v B O⊢;obtain⟨n,rfl⟩:=EI L;simp only[CL,K3] at*;refine Ab (λh=>?_)<|λh=>?_
 .have h:=Aq h;refine CZ (λp:A3 Int=>okW p/\p.length=a.length+1/\p.getD (n+1) 0<2^s/\(∀m,n+1<m->p.getD m 0=0)/\AN (p.take<|n+2)=AN (a.take<|n+1)*2^s) ?_ ?_
  .rintro p ⟨g1,g2,g3,g4,g5⟩;refine A5 BE<|O _ ⟨g1,g2,BO,BO,?_⟩ BO
   have e:(((n:Nat):Int)+1).toNat=n+1:=A4;simp only[e];exact⟨g3,g4,g5⟩
  .intro k hk;let⟨lo,hi,V,b2,b3,b4,b5,b6,Q,W⟩:=uV (x:=a.getD n 0) (s:=s) A4<|Ev T n
   have Z:=xw A4 Q b4;have ho:=Ev g n;have C:FH .or .u64 (o.getD n 0) lo=lo+o.getD n 0:=yd b3 ho.1 M Q A4;refine A5 (Bc A4)<|A5 (Bc A4)<|A5 (Bc A4)<|A5 V<|A5 (Bc A4)<|A5 (Bc A4) ?_
   rw[C];have F:hi<BB:=AK;have G:AN (o.take n)+B2 n*o.getD n 0=AN (a.take n)*2^s:=by rw[<-B,EN]
   have S:AN (o.take n)+B2 n*(lo+o.getD n 0)+B2 (n+1)*hi=AN (a.take<|n+1)*2^s:=by rw[EN a,GQ,<-G,EV,W,Cy,Cy,Hf,FA<|B2 n,EV BB];omega
   refine Ab (λj=>?_)<|λj=>?_
   .have j:=Aq j;have e1:((n:Nat):Int)+1=((n+1:Nat):Int):=A4;rw[e1];refine A5 BE<|A5 BE<|A5 b2 ?_
    refine A5 (Bc (by rw[J6];omega)) (A5 (Bc (by rw[J6];omega)) ?_);simp only[CL];refine hk _ ⟨IW (IW g _ ⟨A4,A4⟩) _ ⟨b5,F⟩,by simpa using u,?_,?_,?_⟩
    .grind
    .intro m hm;rw[getD_set_ne A4,getD_set_ne A4];exact v m A4
    .rw[EN,Fk<|BJ _,H6 (by rw[J6];omega),EN,Fk<|BJ _,H6 A4];exact S
   .have j:=BX j;have I:s=0:=A4;subst I;have J:hi=0:=AK;subst J;refine hk _ ⟨IW g _ ⟨A4,A4⟩,by simpa using u,?_,?_,?_⟩
    .grind
    .intro m hm;rw[getD_set_ne A4];exact v m A4
    .have e2:(o.set n<|lo+o.getD n 0).getD (n+1) 0=0:=by rw[getD_set_ne A4,v _ A4]
     rw[EN,e2,EN,Fk<|BJ _,H6 A4];exact S
 .have h:=BX h;have Ge:n=a.length:=A4;subst Ge;refine AV ⟨g,u,?_⟩;rw[Ce (l:=o) A4,Ce (l:=a) A4] at B;exact B
def gi{m:Int}(e:0<P)(o:UL<P)(g:0<=VL)(i:0<=m)(h:X+1<=m*Y):UL+P*X<m*(VL+P*Y):=by
 have j:=E7 h<|Dr e
 rw[Cy,JS] at j;have p:0<=m*VL:=J4 i g;rw[Cy,FA m P Y];omega
theorem amL{r:Int}(e:q*v1+r=U2)(h:BB*r+u0<q*v0):(u0+BB*U2)+1<=q*(v0+BB*v1):=by grind
def amM{r:Int}(e:q*v1+r=U2)(h:r<v1)(i:u0<BB)(j:0<=q)(g:0<=v0):(u0+BB*U2)+1<=(q+1)*(v0+BB*v1):=by rw[Cy,FA _ BB v1,<-e,GQ q 1 v1,H9];have:0<=(q+1)*v0:=J4 A4 g;unfold BB at*;omega
def amN{R:Int}(e:q*v1+R=U2)(v:0<=q/\q<BB)(B:0<=R)(j:0<=v0/\v0<BB)(o:0<=u0)(p:BB<=2*v1)(h:BB<=R\/q*v0<=BB*R+u0)
 (i:0<P)(C:0<=UL)(F:VL<P)(g:0<=VL):(q-1)*(VL+P*(v0+BB*v1))<=UL+P*(u0+BB*U2):=by
 have t:q*(v0+BB*v1)<=u0+BB*U2:=by
  rw[Cy,FA q BB v1,<-e,Cy];have:q*v0<=BB*R+u0:=by
   rcases h with h|h
   .have:q*v0<=(BB-1)*(BB-1):=NA A4 A4 j.1 (by unfold BB;omega);unfold BB at*;omega
   .exact h
  omega
 have G:=E7 t<|Dr i
 have I:q*VL<=BB*P:=NA A4 A4 g (by unfold BB;omega);have u:P*BB<=P*(v0+BB*v1):=E7 (by unfold BB at*;omega)<|Dr i
 rw[Xw,H9,Cy q,FA q P];rw[EO P BB] at u;omega
theorem aoE{g e:Int}(o:0<P)(v:0<=UL)(p:0<=u0)(t:0<=g)(B:VL<P)(C:v0<BB)(h:UL+P*(u0+BB*(g+BB*e))<BB*(VL+P*(v0+BB*v1))):e<=v1:=by
 rcases(show v1<e\/e<=v1 by omega) with i|i
 .exfalso;have u:BB*(v0+BB*v1+1)<=u0+BB*(g+BB*e):=AK;have j:=E7 u<|Dr o
  rw[FA P BB,Cy P _ 1,JS] at j;rw[Cy BB VL] at h;rw[Cy BB _ P] at j;have F:BB*VL<=BB*P:=E7 A4 (by unfold BB;omega);omega
 .exact i
theorem ahB(h:l.length=k+3):AN l=AN (l.take k)+B2 k*(l.getD k 0+BB*(l.getD (k+1) 0+BB*l.getD (k+2) 0)):=by have e:AN (l.take<|k+3)=AN l:=AK;rw[<-e,EN,EN,EN,Hf<|k+1,Hf,Cy,Cy,Cy,FA (B2 k) BB,FA (B2 k) BB,FA (B2 k) BB,EV,EV,EV];omega
theorem ahC(h:l.length=k+2):AN l=AN (l.take k)+B2 k*(l.getD k 0+BB*l.getD (k+1) 0):=by have e:AN (l.take<|k+2)=AN l:=AK;rw[<-e,EN,EN,Hf,Cy,FA (B2 k) BB,EV];omega
def toNat_succ'(n:Nat):(((n:Nat):Int)+1).toNat=n+1:=by omega
theorem ajh{u v:A3 Int}(hu:okW u)(Q:okW v)(B:u.length=k+3)(hvl:v.length=k+2)(hk:k<2199023255552)(Vd:BB<=2*v.getD (k+1) 0)(hlt:AN u<BB*AN v):Yd (λr=>okW r.1/\r.1.length=k+3/\(0<=r.2/\r.2<BB)/\AN u=r.2*AN v+AN r.1/\AN r.1<AN v) (aj u v):=by
 unfold aj;have eU:=ahB B;have eV:=ahC hvl;let⟨bU0,S⟩:=FN<|Jq hu k
 let⟨U,V⟩:=FN<|Jq Q k
 rw[Dd,Ds A4] at S V;have hP:=JP k;have W:=Ev hu k;have Z:=Ev hu<|k+1
 have hu2:=Ev hu<|k+2
 have MX:=Ev Q k;have hv1:=Ev Q<|k+1
 have hVP:0<=AN v:=(FN Q).1;have hU0:0<=AN u:=(FN hu).1;have e1:((v.length:Int)-1)=((k+1:Nat):Int):=A4;have e2:((v.length:Int)-2)=((k:Nat):Int):=A4;have e0:(v.length:Int)=((k+2:Nat):Int):=A4;rw[e1,e2,e0];have F:∀{l:A3 Int},l.length=k+3->AB l ((k+2:Nat):Int)=some (l.getD (k+2) 0):=λh=>Bc A4
 refine A5 (F B)<|A5 (F B)<|A5 BE<|A5 (Bc A4) ?_
 have hV:AN v<B2 (k+2):=by have:=(FN Q).2;rw[hvl] at this;exact this
 refine CZ (λs:Int×Int×Int=>(0<=s.1/\s.1<BB)/\(0<=s.2.1/\s.2.1<BB)/\(s.2.2=0\/s.2.2=1)/\s.1*v.getD (k+1) 0+(s.2.1+BB*s.2.2)=u.getD (k+1) 0+BB*u.getD (k+2) 0/\AN u<(s.1+1)*AN v) ?_ ?_
 rotate_left
 .intro HN abH;refine Ab (λo=>?_)<|λo=>?_
  .have o:=Aq o;let⟨r,d,a1,a2,a3,a4,a5⟩:=V2 (X:=u.getD (k+1) 0) (Y:=v.getD (k+1) 0) (c:=0) Z hv1<| .inl rfl
   refine A5 BE<|A5 (Bc A4)<|A5 (Bc A4)<|A5 BE<|A5 (Bc A4)<|A5 a1 ?_
   have aam:u.getD (k+2) 0<=v.getD (k+1) 0:=aoE hP bU0 W.1 Z.1 V MX.2 (by rw[<-eU,<-eV];exact hlt);refine abH _ ⟨⟨BO,by dsimp only;unfold BB;omega⟩,⟨a2,a3⟩,a4,?_,?_⟩
   .dsimp only;unfold BB at*;omega
   .dsimp only;exact hlt
  .have o:=BX o;refine A5 (F B)<|A5 (F B)<|A5 BE<|A5 (Bc A4)<|A5 (Bc A4)<|A5 BE<|A5 (Bc A4) ?_
   refine Au (wu ⟨hu2.1,A4⟩ Z hv1.2) ?_;rintro⟨q,r⟩ ⟨d1,d2,d3⟩;dsimp only at d1 d2 d3⊢;have ee:q*v.getD (k+1) 0+r=u.getD (k+1) 0+BB*u.getD (k+2) 0:=by rw[EO BB];omega
   refine abH _ ⟨d1,⟨d2.1,BO⟩,.inl rfl,BO,?_⟩;dsimp only;have:=gi hP S U (show 0<=q+1 by omega)<|amM ee d2.2 W.2 d1.1 MX.1
   rw[<-eU,<-eV] at this;exact this
 rintro⟨q1,r1,c1⟩ ⟨s1,s2,s3,s4,s5⟩;dsimp only at s1 s2 s3 s4 s5⊢;refine CZ (λq:Int=>(0<=q/\q<BB)/\(q-1)*AN v<=AN u/\AN u<(q+1)*AN v) ?_ ?_
 rotate_left
 .intro k41 aqx;refine Dl (λs:Int×Int×Int=>(0<=s.1/\s.1<BB)/\(0<=s.2.1/\s.2.1<BB)/\(s.2.2=0\/s.2.2=1)/\s.1*v.getD (k+1) 0+(s.2.1+BB*s.2.2)=u.getD (k+1) 0+BB*u.getD (k+2) 0/\AN u<(s.1+1)*AN v)
   (λs:Int×Int×Int=>s.1.toNat) ?_ _ _ ⟨s1,s2,s3,s4,s5⟩ (by dsimp only;unfold BB at*;omega)
  rintro next ⟨q,r,c⟩ ⟨G,J,h3,h4,h5⟩ hn
  dsimp only at G J h3 h4 h5 hn⊢;have fin:(BB<=r+BB*c\/q*v.getD k 0<=BB*(r+BB*c)+u.getD k 0)->Yd _ (k41 q):=λhh=>by refine aqx q ⟨G,?_,h5⟩;have:=amN (P:=B2 k) (UL:=AN<|u.take k) (VL:=AN<|v.take k) h4 G (by unfold BB at*;omega) MX W.1 Vd hh hP bU0 V U;rw[<-eU,<-eV] at this;exact this
  refine Ab (λo=>?_)<|λo=>?_
  .have o:=Aq o;subst o;let⟨hi,lo,m1,m2,m3,m4,m5,m6⟩:=dR G MX;refine A5 BE<|A5 (Bc A4)<|A5 m1 ?_
   have key:Yd (λr=>okW r.1/\r.1.length=k+3/\(0<=r.2/\r.2<BB)/\AN u=r.2*AN v+AN r.1/\AN r.1<AN v)
     (cond (((decide<|hi<r)||((decide<|hi=r)&&(decide<|lo<=u.getD k 0)))) (k41 q) (bd (AG ((k+1:Nat):Int)) λLf=>bd (AB v Lf) λMb=>bd (JR r Mb (0:Int)) λNa=>
     next (wr .u64<|q-(1:Int),Na.1,Na.2))):=by
    refine Ab (λC=>?_)<|λC=>?_
    .grind
    .have VA:BB*r+u.getD k 0<q*v.getD k 0:=by rw[m6];rw[Ie,Bool.and_eq_false_iff,Gm,Gm,Gm] at C;unfold BB at*;omega
     let⟨z,d,a1,a2,a3,a4,a5⟩:=V2 (X:=r) (Y:=v.getD (k+1) 0) (c:=0) J hv1<| .inl rfl
     refine A5 BE<|A5 (Bc A4)<|A5 a1 ?_
     have hUq:=gi hP S U G.1<|amL (q:=q) (r:=r) (v1:=v.getD (k+1) 0) (U2:=u.getD (k+1) 0+BB*u.getD (k+2) 0) A4 VA
     rw[<-eU,<-eV] at hUq;have hq1:1<=q:=AK;have ew:wr .u64 (q-1)=q-1:=Gx ⟨A4,A4⟩;rw[ew];refine hn _ ⟨⟨BO,BO⟩,⟨a2,a3⟩,a4,?_,?_⟩ BO
     .grind
     .grind
   have gO:∀{g:Bool} {e:A9 Int} {x:Int} {K:Int->A9 (A3 Int×Int)} {R:A3 Int×Int->Prop},e=some x->(g=true->Yd R (K x))->(g=false->Yd R (K 0))->Yd R (Aw g 0 e K):=λh a b=>FC (λL=>⟨_,h,a L⟩) b
   refine gO BE (λL=>gO (Bc A4) (λasK=>gO (Bc A4) (λhg2=>key) (λh=>by rw[L] at h;cases h)) (λh=>by rw[L] at h;cases h))<|λL=>?_
   refine FC (λh=>by rw[L] at h;cases h) (λ_=>FC (λh=>by rw[L] at h;cases h)<|λ_=>?_);have hgd:(decide (hi<r)||(decide (hi=r)&&decide (lo<=(0:Int))))=(decide (hi<r)||(decide (hi=r)&&decide (lo<=u.getD k 0))):=by
    cases ha:decide (hi<r)
    .cases hb:decide (hi=r)
     .rfl
     .rw[ha,hb] at L;exact absurd L IK
    .rfl
   dsimp only at hgd⊢;rw[hgd];exact key
  .grind
 rintro q ⟨hq,aqw,aqv⟩;refine Dl (λs:A3 Int×Int×Int×Int=>okW s.1/\s.1.length=k+3/\(s.2.1=0\/s.2.1=1)/\(0<=s.2.2.1/\s.2.2.1<BB)/\0<=s.2.2.2/\s.2.2.2<=(k+2:Nat)/\(∀m,s.2.2.2.toNat<=m->s.1.getD m 0=u.getD m 0)/\
   AN (u.take s.2.2.2.toNat)-q*AN (v.take s.2.2.2.toNat)=AN (s.1.take s.2.2.2.toNat)-B2 s.2.2.2.toNat*(s.2.2.1+s.2.1))
  (λs:A3 Int×Int×Int×Int=>k+2-s.2.2.2.toNat) ?_ _ _ ⟨hu,B,.inl rfl,⟨BO,by dsimp only;unfold BB;omega⟩,BO,BO,λ_ _=>rfl,by simp[AN]⟩ BO
 rintro next ⟨p,b,c,i⟩ ⟨G,J,h3,h4,h5,h6,h7,h8⟩ hn
 dsimp only at G J h3 h4 h5 h6 h7 h8 hn⊢;obtain⟨n,rfl⟩:=EI h5;simp only[CL,K3] at*;refine Ab (λo=>?_)<|λo=>?_
 .have o:=Aq o;let⟨hi,lo,m1,m2,m3,m4,m5,m6⟩:=dR hq<|Ev Q n
  let⟨z,d,a1,a2,a3,a4,a5⟩:=V2 (X:=lo) (Y:=c) (c:=0) ⟨m4,m5⟩ h4<| .inl rfl
  let⟨y,b',b1,b2,b3,b4,b5⟩:=oQ (X:=p.getD n 0) (Y:=z) (c:=b) (Ev G n) ⟨a2,a3⟩ h3;refine A5 (Bc A4)<|A5 m1<|A5 a1<|A5 (Bc A4)<|A5 (Bc A4)<|A5 b1<|A5 (Bc A4)<|A5 (Bc A4)<|A5 BE ?_
  have ew:wr .u64 (hi+d)=hi+d:=Gx ⟨A4,by unfold BB at*;omega⟩;dsimp only;rw[ew];refine hn _ ⟨IW G _ ⟨b2,b3⟩,by simpa using J,b4,⟨BO,by dsimp only;unfold BB at*;omega⟩,BO,BO,?_,?_⟩ BO
  .grind
  .simp only[toNat_succ',CL];rw[EN u,EN v,EN,Fk<|BJ _,H6 A4,<-h7 n (BJ _),Hf];have k1:q*(AN (v.take n)+B2 n*v.getD n 0)=q*AN (v.take n)+B2 n*(q*v.getD n 0):=by rw[Cy,FA q]
   have k2:B2 n*(p.getD n 0)-B2 n*(q*v.getD n 0)-B2 n*(c+b)=B2 n*y-BB*B2 n*(hi+d+b'):=AK;rw[k1];omega
 .have o:=BX o;have Ge:n=k+2:=A4;subst Ge;let⟨y,b',b1,b2,b3,b4,b5⟩:=oQ (X:=p.getD (k+2) 0) (Y:=c) (c:=b) (Ev G _) h4 h3;refine A5 (F J)<|A5 (F J)<|A5 b1<|A5 (F J)<|A5 (F J) ?_
  simp only[CL];have okq:=IW G (k+2) ⟨b2,b3⟩;have I:(p.set (k+2) y).length=k+3:=by rw[J6];exact J
  have eW:AN (p.set (k+2) y)=AN (p.take<|k+2)+B2 (k+2)*y:=by
   have:AN ((p.set (k+2) y).take<|k+3)=AN (p.set (k+2) y):=by rw[Ce A4]
   rw[<-this,EN,Fk<|BJ _,H6 A4]
  have eU2:AN u=AN (u.take<|k+2)+B2 (k+2)*p.getD (k+2) 0:=by
   have:AN (u.take<|k+3)=AN u:=by rw[Ce A4]
   rw[<-this,EN,h7 _<|BJ _]
  rw[Ce (l:=v) A4] at h8;have O:AN u-q*AN v=AN (p.set (k+2) y)-B2 (k+3)*b':=by have k2:B2 (k+2)*p.getD (k+2) 0-B2 (k+2)*(c+b)=B2 (k+2)*y-BB*B2 (k+2)*b':=AK;rw[eW,eU2,show k+3=(k+2)+1 from rfl,Hf<|k+2];omega
  have bW:=FN okq;rw[I] at bW
  generalize hR:p.set (k+2) y=R at*
  rw[GQ,H9] at aqv;rw[Xw,H9] at aqw;refine Ab (λC=>?_)<|λC=>?_
  .have C:=Aq C;have C:b'=0:=C;rw[C,SA] at O;refine AV ⟨okq,I,hq,?_,?_⟩
   .dsimp only;omega
   .dsimp only;omega
  .have C:=BX C;have C:b'=1:=AK;rw[C,JS] at O;have hq1:1<=q:=AK;refine Dl (λs:A3 Int×Int×Int=>okW s.1/\s.1.length=k+3/\(s.2.1=0\/s.2.1=1)/\0<=s.2.2/\s.2.2<=(k+2:Nat)/\(∀m,s.2.2.toNat<=m->s.1.getD m 0=R.getD m 0)/\
     AN (s.1.take s.2.2.toNat)+B2 s.2.2.toNat*s.2.1=AN (R.take s.2.2.toNat)+AN (v.take s.2.2.toNat))
    (λs:A3 Int×Int×Int=>k+2-s.2.2.toNat) ?_ _ _ ⟨okq,I,.inl rfl,BO,BO,λ_ _=>rfl,by simp[AN]⟩ BO
   rintro QV ⟨t,e,j⟩ ⟨g1,g2,g3,g4,g5,g6,g7⟩ hn3;dsimp only at g1 g2 g3 g4 g5 g6 g7 hn3⊢;obtain⟨m,rfl⟩:=EI g4;simp only[CL,K3] at*;refine Ab (λhf=>?_)<|λhf=>?_
   .have hf:=Aq hf;let⟨z,d,a1,a2,a3,a4,a5⟩:=V2 (X:=t.getD m 0) (Y:=v.getD m 0) (c:=e) (Ev g1 m) (Ev Q m) g3;refine A5 (Bc A4)<|A5 (Bc A4)<|A5 (Bc A4)<|A5 a1<|A5 (Bc A4)<|A5 (Bc A4)<|A5 BE ?_
    refine hn3 _ ⟨IW g1 _ ⟨a2,a3⟩,by simpa using g2,a4,BO,BO,?_,?_⟩ BO
    .grind
    .simp only[toNat_succ',CL];rw[EN R,EN v,EN,Fk<|BJ _,H6 A4,<-g6 m (BJ _),Hf];have k2:B2 m*t.getD m 0+B2 m*v.getD m 0+B2 m*e=B2 m*z+BB*B2 m*d:=AK;omega
   .have hf:=BX hf;have Lg:m=k+2:=A4;subst Lg;have hT:=Ev g1<|k+2
    refine A5 (F g2)<|A5 (F g2)<|A5 (F g2)<|A5 (F g2)<|AV ?_
    have ew:wr .u64 (q-1)=q-1:=Gx ⟨A4,A4⟩;have ew2:wr .u64 (t.getD (k+2) 0+e)=(t.getD (k+2) 0+e)%BB:=wrW _;rw[ew,ew2];have hm0:=JY (t.getD (k+2) 0+e) (show BB≠0 by unfold BB;omega);have hm1:=J8 (t.getD (k+2) 0+e) (show 0<BB by unfold BB;omega);have hdm:=MJ (t.getD (k+2) 0+e) BB;have ht0:(t.getD (k+2) 0+e)/BB=0\/(t.getD (k+2) 0+e)/BB=1:=by unfold BB at*;omega
    generalize hM:(t.getD (k+2) 0+e)%BB=M at*
    generalize hT':(t.getD (k+2) 0+e)/BB=T at*
    have okz:=IW g1 (k+2) ⟨hm0,hm1⟩;have hlz:(t.set (k+2) M).length=k+3:=by rw[J6];exact g2
    have eZ:AN (t.set (k+2) M)=AN (t.take<|k+2)+B2 (k+2)*M:=by
     have:AN ((t.set (k+2) M).take<|k+3)=AN (t.set (k+2) M):=by rw[Ce A4]
     rw[<-this,EN,Fk<|BJ _,H6 A4]
    have eR:AN R=AN (R.take<|k+2)+B2 (k+2)*t.getD (k+2) 0:=by
     have:AN (R.take<|k+3)=AN R:=by rw[Ce A4]
     rw[<-this,EN,g6 _<|BJ _]
    rw[Ce (l:=v) A4] at g7;have bZ:=FN okz;rw[hlz] at bZ;have sum:AN (t.set (k+2) M)+B2 (k+3)*T=AN R+AN v:=by have k2:B2 (k+2)*t.getD (k+2) 0+B2 (k+2)*e=B2 (k+2)*M+BB*B2 (k+2)*T:=AK;rw[eZ,eR,show k+3=(k+2)+1 from rfl,Hf<|k+2];omega
    have hpp:B2 (k+2)<=B2 (k+3):=bg A4;have hT1:T=1:=AK;rw[hT1,JS] at sum;refine⟨okz,hlz,⟨BO,BO⟩,?_,?_⟩
    .grind
    .dsimp only;omega
def Wv{A B r:Int}(h:A=q*B+r)(e:0<=r)(g:r<B):q=A/B/\r=A%B:=by
 have i:B≠0:=A4;subst h;constructor
 .rw[Int.add_comm,Int.add_mul_ediv_right _ _ i,Int.ediv_eq_zero_of_lt e g];omega
 .rw[Int.add_comm,Int.add_mul_emod_self_right,SJ e g]
theorem Ls(h:n<l.length):l.drop n=l.getD n 0::l.drop (n+1):=by simp_all
def aA(h:n<l.length)(x:Int):(l.set n x).drop n=x::l.drop (n+1):=by rw[Ls (by rw[J6];exact h),H6 h,eF A4]
def aee(v:okW b)(G:b.length=k+2)(hs:s<=63)(B:BB<=2*(b.getD (k+1) 0*2^s))(I:b.getD (k+1) 0*2^s<BB)
 (j:Norm w)(J:AN w=AN b*2^s):w.length=k+2/\BB<=2*w.getD (k+1) 0/\AN w<B2 (k+2)/\B2 (k+1)*2^s<=AN w:=by
 have ps:=two_pos s;have i:=JP<|k+1
 have M:AN b=AN (b.take<|k+1)+B2 (k+1)*b.getD (k+1) 0:=by
  have:AN (b.take<|k+2)=AN b:=by rw[Ce A4]
  rw[<-this,EN]
 let⟨t0,C⟩:=FN<|Jq v<|k+1
 rw[Dd,Ds A4] at C;have o:=xw (s:=s) (lo:=b.getD (k+1) 0*2^s) A4 (Int.mul_emod_left _ _) I;have O:=Ev v<|k+1
 have p:1<=b.getD (k+1) 0:=by
  rcases(show 1<=b.getD (k+1) 0\/b.getD (k+1) 0=0 by omega) with h|h
  .exact h
  .rw[h,Int.zero_mul] at B;unfold BB at B;omega
 generalize b.getD (k+1) 0=t at*
 generalize AN (b.take<|k+1)=L at*
 have e:AN w=L*2^s+B2 (k+1)*(t*2^s):=by rw[J,M,GQ,EV]
 have Q:0<=L*2^s:=J4 t0<|Dr ps
 have S:L*2^s<B2 (k+1)*2^s:=Int.mul_lt_mul_of_pos_right C ps;have u:=E7 o<|Dr i
 rw[Cy] at u;have T:B2 (k+2)=B2 (k+1)*BB:=by rw[Hf<|k+1,EO]
 have g:AN w<B2 (k+2):=by rw[e,T];omega
 have U:B2 (k+1)*2^s<=AN w:=by
  have V:B2 (k+1)*(1*2^s)<=B2 (k+1)*(t*2^s):=E7 (Kf p<|Dr ps)<|Dr i
  rw[H9] at V;omega
 have W:w.length<=k+2:=j.len g;have Sw:k+1<w.length:=by
  rcases G8 (k+1) w.length with h|h
  .exact h
  .have h5:=(FN j.1).2;have h6:=bg h;have h7:B2 (k+1)*1<=B2 (k+1)*2^s:=E7 A4<|Dr i
   omega
 refine⟨A4,?_,g,U⟩;have F:w.length=k+2:=A4;have Z:AN w=AN (w.take<|k+1)+B2 (k+1)*w.getD (k+1) 0:=by
  have:AN (w.take<|k+2)=AN w:=by rw[Ce A4]
  rw[<-this,EN]
 let⟨q0,q1⟩:=FN<|Jq j.1<|k+1
 rw[Dd,Ds A4] at q1
 generalize w.getD (k+1) 0=z at*
 rcases(show BB<=2*z\/2*(z+1)<=BB by unfold BB;omega) with h|h
 .exact h
 .exfalso;have h8:B2 (k+1)*(2*(z+1))<=B2 (k+1)*(2*(t*2^s)):=E7 A4<|Dr i
  rw[FA,FA _ 2,Cy,JS] at h8;omega
def alD(h:okW l)(n:Nat):AN (l.take n)<=AN l:=by
 rcases G8 n l.length with e|e
 .rw[Pd l n A4];have:=J4 (Dr<|JP n) (FN<|Pu h n).1;omega
 .rw[Ce e];exact Int.le_refl _
def drop_zero(h:okW l)(g:n<=l.length)(i:AN l<B2 n):AN (l.drop n)=0:=by
 have j:=Pd l n g;have o:=(FN<|Pu h n).1;have p:=(FN<|Jq h n).1;rcases(show AN (l.drop n)=0\/1<=AN (l.drop n) by omega) with e|e
 .exact e
 .have:=E7 e (Dr<|JP n);omega
def ag3(p:0<s)(C:s<=63)(o:0<=x/\x<BB)(F:0<=y/\y<BB):∃lo:Int,KD .u64 y ((64-s:Nat):Int)=some lo/\0<=FH .or .u64 (x/2^s) lo/\FH .or .u64 (x/2^s) lo<BB/\FH .or .u64 (x/2^s) lo*2^s=x-x%2^s+BB*(y%2^s):=by
 have g:=Zp (s:=s) A4;have h:=two_pos s;have i:=two_pos<|64-s
 have t:=JY y (show(2:Int)^s≠0 by omega);have r1:=J8 y h;have j:y*2^(64-s)%BB=2^(64-s)*(y%2^s):=by rw[<-g,EO y,EO<|2^s,Int.mul_emod_mul_of_pos _ _ i]
 refine⟨2^(64-s)*(y%2^s),by rw[iF A4,j],?_⟩;have u:0<=2^(64-s)*(y%2^s):=J4 (Dr i) t;have v:0<=x/2^s:=J5 o.1<|Dr h
 have B:x/2^s<2^(64-s):=by refine YE h ?_;rw[EO,g];exact o.2
 have G:2^(64-s)*(y%2^s)+2^(64-s)<=BB:=by
  have:=E7 (show y%2^s+1<=2^s by omega)<|Dr i
  rw[Cy,JS,EO _<|2^s,g] at this;exact this
 rw[yd (s:=64-s) u v B (Int.mul_emod_right _ _) A4];refine⟨A4,A4,?_⟩;have e:=MJ x<|2^s
 rw[GQ,Int.mul_right_comm,EO<|2^(64-s),g,EO<|x/2^s];omega
def vJ(I:Norm a)(F:Norm b)(h0:b≠[])(hla:a.length<2199023255552)(hlb:b.length<2199023255552):Yd (λr=>(Norm r.1/\AN r.1=AN a/AN b)/\Norm r.2/\AN r.2=AN a%AN b) (Wi a b):=by
 unfold Wi;have hbl:0<b.length:=by cases b;exact absurd rfl h0;simp
 have Z:=(FN I.1).1;refine Au (sN I F A4 A4) λc hc=>?_
 refine Ab (λC=>?_)<|λC=>?_
 .have C:=Aq C;have hv:AN a<AN b:=by rcases hc with h|h|h<;>omega
  exact AV ⟨⟨Norm.nil,by rw[Int.ediv_eq_zero_of_lt Z hv];rfl⟩,I,by rw[SJ Z hv]⟩
 have C:=BX C;have hv:AN b<=AN a:=by rcases hc with h|h|h<;>omega
 have atE:b.length<=a.length:=by
  rcases G8 a.length b.length with h|h
  .have:=Wx I.1 F h;omega
  .exact h
 refine Ab (λh1=>?_)<|λh1=>?_
 ·
  have h1:=Aq h1;have hl1:b.length=1:=A4;obtain⟨y,rfl⟩:∃y,b=[y]:=by
   cases b with
   |nil=>cases hl1
   |cons x t=>cases t with|nil=>exact⟨x,rfl⟩|cons _ _=>simp at hl1
  have hy:0<y/\y<BB:=by
   have:=Mz.1 F.1;have h2:y≠0:=λe=>F.2 (by rw[e];rfl)
   omega
  have eV:AN [y]=y:=by simp[AN]
  rw[eV] at hv⊢;refine A5 (NU A4 A4 A4)<|A5 BE ?_
  refine Dl (λs:A3 Int×Int×Int=>okW s.1/\s.1.length=a.length/\(0<=s.2.1/\s.2.1<y)/\ -1<=s.2.2/\s.2.2<a.length/\AN (a.drop (s.2.2+1).toNat)=AN (s.1.drop (s.2.2+1).toNat)*y+s.2.1)
   (λs:A3 Int×Int×Int=>(s.2.2+1).toNat) ?_ _ _ ⟨Tk _,by simp only[Kd];omega,⟨BO,BO⟩,BO,BO,?_⟩ BO
  rotate_left
  .have:((a.length:Int)-1+1).toNat=a.length:=A4;dsimp only;rw[this,QJ,Ke AO];simp[AN]
  rintro next ⟨o,r,i⟩ ⟨g,J,G,g4,g5,L⟩ hn
  dsimp only at g J G g4 g5 L hn⊢;refine Ab (λp=>?_)<|λp=>?_
  .have p:=Aq p;obtain⟨n,rfl⟩:=EI p;simp only[toNat_succ',CL,K3] at*;refine A5 (Bc A4)<|A5 (show AB [y] 0=some y from rfl) ?_
   refine Au (wu G (Ev I.1 n) hy.2) ?_;rintro⟨q,z⟩ ⟨d1,d2,d3⟩;dsimp only at d1 d2 d3⊢;refine A5 (Bc A4)<|A5 (Bc A4)<|A5 BE ?_
   refine hn _ ⟨IW g _ d1,by simpa using J,d2,BO,BO,?_⟩ BO;have e:(((n:Nat):Int)-1+1).toNat=n:=A4;simp only[e];rw[Ls A4,aA A4,Kz,Kz,L,GQ,Cy,EV,EO BB r];omega
  .have p:=BX p;have hi:i= -1:=A4;subst hi;have L:AN a=AN o*y+r:=L;refine Au (Pw g A4) λw ⟨w1,w2,_⟩=>?_
   refine Au (Pw (a:=[r]) (Mz.2 ⟨⟨G.1,A4⟩,Xq⟩) AO) λz ⟨z1,z2,_⟩=>?_
   have er:AN [r]=r:=by simp[AN]
   let⟨u1,u2⟩:=Wv L G.1 G.2;exact AV ⟨⟨w1,by dsimp only;rw[w2,u1]⟩,z1,by dsimp only;rw[z2,er,u2]⟩
 ·
  have h1:=BX h1;obtain⟨k,hk⟩:∃k,b.length=k+2:=⟨b.length-2,A4⟩;have hbt:0<b.getD (k+1) 0:=by
   have M:=(Ev F.1<|k+1).1;rcases(show 0<b.getD (k+1) 0\/b.getD (k+1) 0=0 by omega) with h|h
   .exact h
   .refine absurd ?_ F.2;rw[List.getLast?_eq_getElem?,show b.length-1=k+1 from by omega];rw[HD] at h;rw[FT A4] at h⊢;simpa using h
  let⟨s,l1,l2,l3,l4⟩:=aEz hbt (Ev F.1<|k+1).2;have e1:((b.length:Int)-1)=((k+1:Nat):Int):=A4;rw[e1];refine A5 BE<|A5 (Bc A4)<|A5 l1 ?_
  refine Au (uY F.1 l2 A4) λw0 ⟨p1,p2,p3⟩=>?_
  refine Au (Pw p1 A4) λv ⟨v1,v2,_⟩=>?_
  rw[p3] at v2;let⟨v3,v4,v5,v6⟩:=aee F.1 hk l2 l3 l4 v1 v2;refine Au (uY I.1 l2 A4) λu0 ⟨q1,q2,q3⟩=>?_
  obtain⟨d,hd⟩:∃d,a.length=d+(k+2):=⟨a.length-(k+2),A4⟩;have e2:((a.length:Int)-(v.length:Int))=((d:Nat):Int):=A4;rw[e2,v3];refine A5 BE<|A5 BE<|A5 (NU A4 A4 A4)<|A5 BE ?_
  have ps:=two_pos s;have hV0:0<AN v:=by have:=Int.mul_pos (JP<|k+1) ps;omega
  refine Dl (λt:A3 Int×A3 Int×Int=>okW t.1/\t.1.length=a.length+1/\okW t.2.1/\t.2.1.length=d+1/\ -1<=t.2.2/\t.2.2<=d/\AN (t.1.drop (t.2.2+1).toNat)<AN v/\
    AN a*2^s=AN v*(B2 (t.2.2+1).toNat*AN (t.2.1.drop (t.2.2+1).toNat))+AN t.1)
   (λt:A3 Int×A3 Int×Int=>(t.2.2+1).toNat) ?_ _ _ ⟨q1,q2,Tk _,by simp only[Kd];omega,BO,BO,?_,?_⟩ BO
  rotate_left
  .dsimp only;rw[toNat_succ'];have M:=Pd u0 (d+1) A4;have h4:=(FN<|Jq q1<|d+1).1;rw[q3] at M;have h5:=(FN I.1).2;have h6:AN a*2^s<B2 a.length*2^s:=Int.mul_lt_mul_of_pos_right h5 ps;rw[hd,show d+(k+2)=(d+1)+(k+1) from by omega,cz,EV] at h6;have h7:AN (u0.drop<|d+1)<B2 (k+1)*2^s:=by
    rcases(show AN (u0.drop<|d+1)<B2 (k+1)*2^s\/B2 (k+1)*2^s<=AN (u0.drop<|d+1) by omega) with h|h
    .exact h
    .have:=E7 h (Dr<|JP<|d+1);omega
   omega
  .dsimp only;rw[toNat_succ',Ke AO,<-q3];simp[AN]
  rintro next ⟨u,o,j⟩ ⟨g,J,G,g4,g5,L,g7,U⟩ hn
  dsimp only at g J G g4 g5 L g7 U hn⊢;refine Ab (λp=>?_)<|λp=>?_
  .have p:=Aq p;obtain⟨n,rfl⟩:=EI p;simp only[toNat_succ',CL,K3] at*;have e3:(((n:Nat):Int)+((k+2:Nat):Int))=((n+(k+2):Nat):Int):=A4;have e4:(((n+(k+2):Nat):Int)+1)=((n+(k+3):Nat):Int):=A4;have e5:(((n+(k+3):Nat):Int)-((n:Nat):Int)).toNat=k+3:=A4;rw[e3];refine A5 BE ?_;rw[e4];refine A5 BE<|Yd.gC ?_ ?_
   .rw[B1 (show(0:Int)<=(n:Int) by omega),B1 (show((n:Nat):Int)<((n+(k+3):Nat):Int) by omega),B1 (show((n+(k+3):Nat):Int)<=(u.length:Int) by omega)]
    rfl
   rw[e5];have okd:=Pu g n;have hdl:(u.drop n).length=a.length+1-n:=by rw[Hj,J]
   have hw:((u.drop n).take<|k+3).length=k+3:=by rw[Dd];omega
   have hdn:u.drop n=u.getD n 0::u.drop (n+1):=Ls A4;have hun:=Ev g n;have iC:AN ((u.drop n).take<|k+3)<BB*AN v:=by
    rw[hdn,show k+3=(k+2)+1 from rfl,eI,Kz];have M:=alD (Pu g<|n+1)<|k+2
    unfold BB at*;omega
   have O:AN (u.drop<|n+(k+3))=0:=by have:=drop_zero (Pu g<|n+1) (n:=k+2) (by rw[Hj];omega) A4;rw[Ee] at this;rw[show n+(k+3)=n+1+(k+2) from by omega];exact this
   refine Au (ajh (k:=k) (Jq okd _) v1.1 hw v3 A4 v4 iC) ?_;rintro⟨w,q⟩ ⟨s1,s2,s3,s4,s5⟩;dsimp only at s1 s2 s3 s4 s5⊢;refine Yd.gC ?_ ?_
   .rw[s2,show Nat.blt 0 (k+3)=true from GR A4,show Nat.ble (n+(k+3)) u.length=true from GR A4,Nat.beq_refl]
    rfl
   refine A5 (Bc A4)<|A5 (Bc A4)<|A5 BE ?_
   have okt:=Jq g n;have okz:=Pu g<|n+(k+3)
   have Qq:(u.take n).length=n:=by rw[Dd];omega
   have e7:(((n:Nat):Int)-1+1).toNat=n:=A4;have evu:AN u=AN (u.take n)+B2 n*AN ((u.drop n).take<|k+3):=by rw[Pd u n A4,Pd (u.drop n) (k+3) A4,Ee,O,SA,Ua]
   have evn:AN (u.take n++w++u.drop (n+(k+3)))=AN (u.take n)+B2 n*AN w:=by rw[Tt,Tt,O,SA,Ua,Qq]
   have edn:(u.take n++w++u.drop (n+(k+3))).drop n=w++u.drop (n+(k+3)):=by rw[Fz,LC,Ke A4,Qq];simp
   refine hn _ ⟨vI.2 ⟨vI.2 ⟨okt,s1⟩,okz⟩,?_,IW G _ s3,by simpa using g4,BO,BO,?_,?_⟩ BO
   .dsimp only;rw[DD,DD,Qq,s2,Hj,J];omega
   .dsimp only;rw[e7,edn,Tt,O,SA,Ua];exact s5
   .dsimp only;rw[e7,evn,aA A4,Kz,U,evu,s4,Hf];have k1:AN v*(B2 n*(q+BB*AN (o.drop<|n+1)))=B2 n*(q*AN v)+AN v*(BB*B2 n*AN (o.drop<|n+1)):=by rw[Cy,Cy,FA<|AN v,EO (AN v) q,FA (B2 n) BB,EV BB]
    rw[k1,Cy];omega
  .have p:=BX p;have hj:j= -1:=A4;subst hj;have g7:AN u<AN v:=g7;have U:AN a*2^s=AN v*(B2 0*AN o)+AN u:=U;rw[XO,H9] at U;have hu0:0<=AN u:=(FN g).1;have Q:AN u=2^s*(AN a-AN b*AN o):=by rw[S7,EO _<|AN a,U,v2,EO<|AN b,EV];omega
   have apr:∃c:Int,BB=2^s*c:=⟨_,(Zp (s:=s) A4).symm⟩;have aqr:u.getD 0 0%2^s=0:=by
    let⟨c,hc⟩:=apr;have M:u=u.getD 0 0::u.drop 1:=Ls (n:=0) (l:=u) A4;have h4:AN u=u.getD 0 0+BB*AN (u.drop 1):=by rw[<-Kz,<-M]
    have h5:u.getD 0 0=2^s*(AN a-AN b*AN o-c*AN (u.drop 1)):=by rw[S7,<-Q,<-EV,<-hc];omega
    rw[h5,Int.mul_emod_right]
   refine Dl (λt:A3 Int×Int=>okW t.1/\t.1.length=a.length+1/\0<=t.2/\t.2<=(k+2:Nat)/\(∀m,t.2.toNat<=m->t.1.getD m 0=u.getD m 0)/\
     AN (t.1.take t.2.toNat)*2^s=AN (u.take t.2.toNat)+B2 t.2.toNat*(u.getD t.2.toNat 0%2^s))
    (λt:A3 Int×Int=>k+2-t.2.toNat) ?_ _ _ ⟨g,J,BO,BO,λ_ _=>rfl,?_⟩ BO
   rotate_left
   .show AN (u.take 0)*2^s=AN (u.take 0)+B2 0*(u.getD 0 0%2^s);rw[aqr];simp[AN]
   rintro Gi ⟨r,i⟩ ⟨S,f2,f3,f4,V,f6⟩ Qn;dsimp only at S f2 f3 f4 V f6 Qn⊢;obtain⟨m,rfl⟩:=EI f3;simp only[CL,K3] at*;refine Ab (λhf=>?_)<|λhf=>?_
   .have hf:=Aq hf;refine CZ (λz:A3 Int=>okW z/\z.length=a.length+1/\(∀x,m+1<=x->z.getD x 0=u.getD x 0)/\AN (z.take<|m+1)*2^s=AN (u.take<|m+1)+B2 (m+1)*(u.getD (m+1) 0%2^s)) ?_ ?_
    .rintro z ⟨z1,z2,z3,z4⟩;refine A5 BE<|Qn _ ⟨z1,z2,BO,BO,?_⟩ BO
     dsimp only;rw[toNat_succ'];exact⟨z3,z4⟩
    .intro k69 abG;have hx:=Ev S m;have hx2:=Ev S<|m+1
     have IE:0<=r.getD m 0/2^s/\r.getD m 0/2^s<BB:=⟨J5 hx.1<|Dr ps,Int.lt_of_le_of_lt (QI _ hx.1) hx.2⟩;refine A5 (Bc A4)<|A5 (Bc A4)<|A5 (iE A4)<|A5 (Bc A4)<|A5 (Bc A4) ?_
     have e8:(((m:Nat):Int)+1)=((m+1:Nat):Int):=A4;have aq:∀z:Int,z*2^s=r.getD m 0-r.getD m 0%2^s+BB*(r.getD (m+1) 0%2^s)->(AN (r.take m)+B2 m*z)*2^s=AN (u.take<|m+1)+B2 (m+1)*(u.getD (m+1) 0%2^s):=by intro z hz;rw[<-V (m+1) A4,EN u,<-V m (BJ _),GQ,f6,EV,hz,<-V m (BJ _),Hf,Cy,S7,FA (B2 m) BB,EV BB];omega
     refine FC (λT=>?_)<|λT=>?_
     .have T:=Aq T;refine⟨_,Dj ⟨A4,A4⟩,Ab (λW=>?_)<|λW=>?_⟩
      .let⟨lo,b1,b2,b3,b4⟩:=ag3 (s:=s) (x:=r.getD m 0) (y:=r.getD (m+1) 0) A4 l2 hx hx2;have LV:(r.set m<|r.getD m 0/2^s).length=a.length+1:=by rw[J6];exact f2
       have e9:((64:Int)-(s:Int))=((64-s:Nat):Int):=A4;rw[e8,e9];refine A5 (Bc A4)<|A5 (Bc A4)<|A5 BE<|A5 (Bc A4)<|A5 (Bc A4)<|A5 BE ?_
       rw[getD_set_ne (show m+1≠m by omega),H6 (show m<r.length by omega)];refine A5 b1<|A5 (Bc A4)<|A5 (Bc A4) ?_
       refine abG _ ⟨IW (IW S _ IE) _ ⟨b2,b3⟩,by simpa using f2,?_,?_⟩
       .intro x hxm;rw[getD_set_ne A4,getD_set_ne A4];exact V x A4
       .rw[EN,Fk<|BJ _,H6 A4,Fk<|BJ _];exact aq _ b4
      .rw[B1 T,I3] at W;have:=BX W;simp only[J6] at this;omega
     .have T:=BX T;have hs0:s=0:=A4;subst hs0;refine Ab (λW=>?_)<|λW=>?_
      .exact absurd (Aq (DY W).1) T
      .refine abG _ ⟨IW S _ IE,by simpa using f2,?_,?_⟩
       .intro x hxm;rw[getD_set_ne A4];exact V x A4
       .rw[EN,Fk<|BJ _,H6 A4];refine aq _ ?_;simp[Int.emod_one]
   .have hf:=BX hf;have Lg:m=k+2:=A4;subst Lg;have hz:=drop_zero g (n:=k+2) A4 A4;have hz2:u.getD (k+2) 0=0:=adT hz g<|BJ _
    have hu:AN u=AN (u.take<|k+2):=by rw[Pd u (k+2) A4,hz];omega
    rw[hz2,Int.zero_emod,SA,Ua,<-hu,Q,EO] at f6;have f7:AN (r.take<|k+2)=AN a-AN b*AN o:=Int.eq_of_mul_eq_mul_left A4 f6;have f8:AN (r.take<|k+2)<AN b:=by
     have M:2^s*(AN a-AN b*AN o)<2^s*AN b:=by rw[<-Q,EO,<-v2];exact g7
     rw[f7];exact eS M<|Dr ps
    refine Au (Pw G A4) λx ⟨x1,x2,_⟩=>?_
    refine A5 (DV A4 A4 A4) ?_;refine Au (Pw (Pu (Jq S _) _) (by rw[Hj,Dd];omega)) λz ⟨z1,z2,_⟩=>?_
    have z3:AN z=AN (r.take<|k+2):=z2;let⟨w1,w2⟩:=Wv (A:=AN a) (B:=AN b) (q:=AN o) (r:=AN<|r.take<|k+2) (by rw[f7,EO];omega) (FN<|Jq S _).1 f8;exact AV ⟨⟨x1,by dsimp only;rw[x2];exact w1⟩,z1,by dsimp only;rw[z3];exact w2⟩
theorem pJ(h:2^k<=n):k<=Nat.log2 n:=by have e:n≠0:=AK;exact(Nat.le_log2 e).2 h
def oj:∀n:Nat,B2 n=((2^(64*n):Nat):Int)
 |0=>rfl
 |n+1=>by rw[Hf,oj n,show 64*(n+1)=64+64*n from by omega,KU,QH];rfl
theorem CQ.len(h:CQ r z)(i:Cc z=true):r.2.length<1099511627776:=by
 rcases h with⟨h,_⟩|⟨h0,h1,h2,h3,h4,h5⟩
 .rw[h];simp
 .have g:=Ri h2 h0 h3;have i:=Cs i;have e:(z.natAbs:Int)=AN r.2:=AK;rw[oj,<-e] at g;have g:2^(64*(r.2.length-1))<=z.natAbs:=AK;have:=pJ g;omega
def nh{n:Int}(h:Cd n):U5 n=some (n.natAbs:Int):=by
 unfold Cd at h;unfold U5;by_cases g:n<0
 .rw[B1 g];show some (wr .u64<|wr .i64<|0-n)=_;by_cases i:n= -9223372036854775808
  .subst i;rfl
  .have e1:wr .i64 (0-n)=0-n:=wrap_i64 ⟨A4,A4⟩;have e:wr .u64 (0-n)=0-n:=wrap_u64 ⟨A4,A4⟩;rw[e1,e]
   congr 1;omega
 .rw[Bb g];show some (wr .u64 n)=_;have e:wr .u64 n=n:=wrap_u64 ⟨A4,A4⟩;rw[e]
  congr 1;omega
theorem O0(h:CQ r z):Yd (λp=>p.1=decide (z<0)/\Norm p.2/\AN p.2=(z.natAbs:Int)/\p.2.length<=r.2.length+1) (Kt r):=by
 unfold Kt;rcases h with⟨h1,h2,h3⟩|⟨h0,h1,h2,h3,h4,h5⟩
 .rw[h1];refine Ab (λe=>by simp at e)<|λ_=>?_
  rw[h2];refine Ab (λe=>?_)<|λe=>?_
  .have e:=Aq e;subst e;exact AV ⟨rfl,Norm.nil,rfl,AO⟩
  .have e:=BX e;refine A5 (nh h3) (AV ⟨rfl,⟨?_,?_⟩,by simp[AN],AO⟩)
   .rw[Mz];unfold Cd at h3;exact⟨⟨A4,by unfold BB;omega⟩,Xq⟩
   .simp;omega
 .have hv:=(FN h2).1;refine Ab (λ_=>AV ⟨?_,⟨h2,h3⟩,?_,by dsimp;omega⟩)<|λe=>?_
  .grind
  .grind
  .grind
def Rw(h:Norm w)(i:Bool):Yd (λr=>CQ r<|bif i then -AN w else AN w) (Ms i w):=by
 unfold Ms;let⟨p,j⟩:=h
 match w,p,j with
 |[],_,_=>refine Ab (λ_=>AV (.inl ⟨rfl,by cases i<;>rfl,by cases i<;>(unfold Cd;simp[AN])⟩)) (λg=>by simp at g)
 |[x],p,j=>
  rw[Mz] at p;let⟨⟨I,J⟩,_⟩:=p;have v:AN [x]=x:=by simp[AN]
  have Q:x≠0:=λe=>j (by rw[e];rfl)
  have F:AB [x] (0:Int)=some x:=rfl;rw[v];refine Ab (λg=>by simp at g)<|λ_=>?_
  refine FC (λ_=>⟨x,F,?_⟩) (λg=>by simp[gd] at g);refine Ab (λg=>?_)<|λg=>?_
  .let⟨g,t⟩:=DY g;let⟨_,g⟩:=DY g;have g:=Aq g;subst t;have G:wr .i64 x=x:=wrap_i64 ⟨A4,A4⟩;exact A5 F (A5 (Dj (by rw[G];exact⟨A4,A4⟩)) (AV (.inl ⟨rfl,by rw[G];rfl,by unfold Cd;simp[BF];omega⟩)))
  .refine FC (λ_=>⟨x,F,?_⟩) (λg=>by simp[gd] at g);refine Ab (λB=>?_)<|λB=>?_
   .let⟨_,hd'⟩:=DY B;have M:=Aq hd';rw[B] at g;have t:i=false:=by simpa using g
    subst t;have G:wr .i64 x=x:=wrap_i64 ⟨A4,A4⟩;exact A5 F (AV (.inl ⟨rfl,by rw[G];rfl,by unfold Cd;simp[Av];omega⟩))
   .have C:9223372036854775807<x:=by have:decide (([x].length:Int)=(1:Int))=true:=rfl;rw[this,I3] at B;have:=BX B;omega
    have L:okW [x]:=by rw[Mz];exact⟨⟨I,J⟩,Xq⟩
    refine Ab (λu=>?_)<|λu=>?_
    .subst u;exact Yd.gC rfl (AV (.inr ⟨AO,.inr rfl,L,j,by rw[v];simp,by rw[v];exact C⟩))
    .subst u;exact Yd.gC rfl (AV (.inr ⟨AO,.inl rfl,L,j,by rw[v];simp,by rw[v];exact C⟩))
 |x::y::l,p,j=>
  have C:9223372036854775807<AN (x::y::l):=by have S:=Ri p AO j;have T:B2 1<=B2 ((x::y::l).length-1):=bg AO;have O:B2 1=BB:=rfl;unfold BB at O;omega
  have o:decide (((x::y::l).length:Int)=(1:Int))=false:=Bb Co;refine Ab (λg=>by have:=Aq g;simp at this;omega)<|λ_=>?_
  refine FC (λg=>by simp only[gd] at g;rw[o] at g;cases g)<|λ_=>?_
  refine Ab (λg=>by rw[o] at g;simp at g)<|λ_=>?_
  refine FC (λg=>by simp only[gd] at g;rw[o] at g;cases g)<|λ_=>?_
  refine Ab (λg=>by rw[o] at g;simp at g)<|λ_=>?_
  refine Ab (λu=>?_)<|λu=>?_
  .subst u;exact Yd.gC rfl<|AV<| .inr ⟨AO,.inr rfl,p,j,AO,C⟩
  .subst u;exact Yd.gC rfl<|AV<| .inr ⟨AO,.inl rfl,p,j,AO,C⟩
theorem UN(h:CQ r z):Np r=some z.sign:=by
 unfold Np
 congr 1
 unfold mx_ mn_;rcases h with⟨h1,h2,h3⟩|⟨h0,h1,h2,h3,h4,h5⟩
 .grind
 .grind
theorem Q7(h:CQ r z):Yd (λq=>CQ q<| -z) (Lp r):=by
 unfold Lp;refine Ab (λe=>?_)<|λe=>?_
 .let⟨h1,h2⟩:=DY e;rw[F6,Gm] at h2;rcases h with⟨g1,g2,g3⟩|⟨h0,_⟩
  .unfold Cd at g3;exact A5 BE (AV (.inl ⟨rfl,by dsimp;omega,by unfold Cd;omega⟩))
  .grind
 .refine Au (O0 h) λp ⟨g,i,j,_⟩=>Au (Rw i<| !p.1) λq o=>AV ?_
  rw[g,j] at o;by_cases t:z<0
  .grind
  .grind
theorem pD(h:CQ r z):Yd (λq=>CQ q (z.natAbs:Int)) (Wb r):=by
 unfold Wb;have g:r.1<0↔z<0:=by
  rcases h with⟨g1,g2,g3⟩|⟨h0,h1,h2,h3,h4,h5⟩
  .rw[g2]
  .grind
 refine Ab (λe=>?_)<|λe=>?_
 .have e:=g.1 (Aq e);refine Au (Q7 h) λq i=>AV ?_
  rwa [show((z.natAbs:Nat):Int)= -z by omega]
 .have e:=BX e;have: ¬z<0:=λh=>e<|g.2 h
  refine AV ?_;rwa [show((z.natAbs:Nat):Int)=z by omega]
theorem dO{s:Int×A3 Int}(O:CQ r x)(Q:CQ s y)(U:r.2.length<2199023255552)(V:s.2.length<2199023255552):Yd (λq=>CQ q<|x+y) (RP r s):=by
 unfold RP;refine CZ (λ_=>True) (λ_ _=>?_)<|λk S=>Ab (λj=>?_)<|λ_=>S _ trivial
 .refine Au (O0 O) λp ⟨F,o,I,p4⟩=>Au (O0 Q) λq ⟨q1,t,J,q4⟩=>?_
  refine Ab (λj=>?_)<|λj=>?_
  .refine Au (aed o.1 t.1 A4 A4) λw ⟨u,v⟩=>Au (Rw u p.1) λz B=>AV ?_
   rw[v,I,J,F] at B;rw[F,q1,N5] at j;by_cases G:x<0
   .grind
   .grind
  .have hne: ¬(x<0↔y<0):=by intro h;rw[F,q1] at j;simp[h] at j
   refine Au (sN o t A4 A4) λc T=>Ab (λe=>?_)<|λe=>?_
   .have e:=Aq e;have i:AN q.2<=AN p.2:=A4;have g:q.2.length<=p.2.length:=by
     rcases G8 p.2.length q.2.length with h|h
     .have:=Wx o.1 t h;omega
     .exact h
    refine Au (uD o.1 t.1 g A4 i) λw ⟨u,v⟩=>Au (Rw u p.1) λz B=>AV ?_
    rw[v,I,J,F] at B;by_cases G:x<0
    .grind
    .grind
   .have e:=BX e;have i:AN p.2<=AN q.2:=A4;have g:p.2.length<=q.2.length:=by
     rcases G8 q.2.length p.2.length with h|h
     .have:=Wx t.1 o h;omega
     .exact h
    refine Au (uD t.1 o.1 g A4 i) λw ⟨u,v⟩=>Au (Rw u q.1) λz B=>AV ?_
    rw[v,I,J,q1] at B;by_cases G:y<0
    .grind
    .grind
 .let⟨G,h2⟩:=DY j;rw[Ui] at G h2;rcases O with⟨_,e1,i1⟩|⟨h0,_⟩
  .rcases Q with⟨_,e2,i2⟩|⟨h0,_⟩
   .rw[e1,e2];unfold Cd at i1 i2;refine Ab (λe=>AV<| .inl ⟨rfl,?_,?_⟩)<|λ_=>S _ trivial
    all_goals
     by_cases C: -9223372036854775808<=x+y/\x+y<=9223372036854775807
     .first
      |exact wrap_i64 C|exact C
     .exfalso;rw[N5] at e;rcases Int.lt_or_lt_of_ne (show x+y≠0 by omega) with W|Z
      .have e3:wr .i64 (x+y)=x+y+18446744073709551616:=by
        have:wr .i64 (x+y)=wr .i64 (x+y+18446744073709551616):=by unfold wr IntKind.wrap;simp[IntKind.bits,IntKind.signed]
        rw[this];exact wrap_i64 ⟨A4,A4⟩
       rw[e3] at e;have L:x<x+y+18446744073709551616:=A4;have M: ¬0<y:=A4;simp[L,M] at e
      .have e3:wr .i64 (x+y)=x+y-18446744073709551616:=by
        have:wr .i64 (x+y)=wr .i64 (x+y-18446744073709551616):=by unfold wr IntKind.wrap;simp[IntKind.bits,IntKind.signed]
        rw[this];exact wrap_i64 ⟨A4,A4⟩
       rw[e3] at e;have L: ¬x<x+y-18446744073709551616:=A4;have M:0<y:=A4;simp[L,M] at e
   .grind
  .grind
theorem oO(z:Int):Cc (-z)=Cc z:=by grind [Cc]
def V6(h:x.natAbs<=y.natAbs)(g:Cc y=true):Cc x=true:=by
 unfold Cc at*;refine GR ?_;have:=Cs g;by_cases e:x.natAbs=0
 .rw[e];decide
 .have h1:Nat.log2 x.natAbs<=Nat.log2 y.natAbs:=(Nat.le_log2 A4).2 (CA ((Nat.le_log2 e).1<|BJ _) h);omega
def zN{s:Int×A3 Int}(e:CQ r x)(h:CQ s y)(i:Cc x=true)(j:Cc y=true):Yd (λq=>CQ q<|x-y) (WY r s):=by
 unfold WY;refine Au (Q7 h) λn g=>Au (dO e g (by have:=e.len i;omega) (by have:=g.len (by rw[oO];exact j);omega)) λq o=>AV ?_
 rwa [Int.sub_eq_add_neg]
theorem zO{s:Int×A3 Int}(h:CQ r x)(i:CQ s y)(C:Cc x=true)(F:Cc y=true):Yd (λq=>CQ q<|x*y) (RO r s):=by
 have e:∀(b:Bool),b=(!(decide (x<0)==decide (y<0)))->(bif b then -((x.natAbs:Int)*(y.natAbs:Int)) else(x.natAbs:Int)*(y.natAbs:Int))=x*y:=AK;unfold RO;refine CZ (λ_=>True) (λ_ _=>?_)<|λk t=>Ab (λG=>?_)<|λ_=>t _ trivial
 .refine Au (O0 h) λp ⟨I,J,L,p4⟩=>Au (O0 i) λq ⟨q1,M,O,q4⟩=>?_
  have l1:=h.len C;have l2:=i.len F;refine Au (aec J.1 M.1 A4 A4) λw ⟨Q,S⟩=>Au (Rw Q<| !(p.1==q.1)) λz u=>AV ?_
  rw[S,L,O,e _ (by rw[I,q1])] at u;exact u
 .let⟨h1,h2⟩:=DY G;rw[Ui] at h1 h2;rcases h with⟨_,e1,i1⟩|⟨h0,_⟩
  .rcases i with⟨_,e2,i2⟩|⟨h0,_⟩
   .rw[e1,e2];unfold Cd at i1 i2;have T:(0:Int)<=(x.natAbs:Int)/\(x.natAbs:Int)<BB:=⟨A4,by unfold BB;omega⟩;have j:(0:Int)<=(y.natAbs:Int)/\(y.natAbs:Int)<BB:=⟨A4,by unfold BB;omega⟩;let⟨hi,lo,U,m2,m3,m4,m5,V⟩:=dR T j;refine A5 (nh i1)<|A5 (nh i2)<|A5 U<|Ab (λW=>?_)<|λ_=>t _ trivial
    let⟨g,v⟩:=DY W;have g:=Aq g;have v:=Aq v;have B:wr .i64 lo=lo:=wrap_i64 ⟨A4,A4⟩;have g:hi=0:=g;have Z:(x.natAbs:Int)*(y.natAbs:Int)=lo:=by rw[V,g];omega
    have s2:=e _ rfl;rw[Z] at s2;refine Ab (λo=>?_)<|λo=>?_
    .rw[o] at s2;simp[BF] at s2;rw[B];exact A5 BE (AV (.inl ⟨rfl,s2,by unfold Cd;omega⟩))
    .rw[o] at s2;simp[Av] at s2;rw[B];exact AV (.inl ⟨rfl,s2,by unfold Cd;omega⟩)
   .grind
  .grind
theorem aly{s:Int×A3 Int}(e:CQ r x)(g:CQ s y)(i:Cc x=true)(j:Cc y=true):kS r s=some (TD x y):=by
 refine F8 ?_;unfold kS;refine Ab (λo=>?_)<|λ_=>Au (zN e g i j) λq p=>A5 (UN p)<|AV ?_
 .let⟨h1,h2⟩:=DY o;rw[Ui] at h1 h2;rcases e with⟨_,e1,i1⟩|⟨h0,_⟩
  .rcases g with⟨_,e2,i2⟩|⟨h0,_⟩
   .rw[e1,e2];unfold TD;refine Ab (λh=>AV (by rw[h];rfl)) (λh=>Ab (λk=>AV (by rw[h,k];rfl)) (λk=>AV (by rw[h,k];rfl)))
   .grind
  .grind
 .unfold TD;rcases Uk x y with h|h|h
  .grind
  .grind
  .grind
theorem aiB(h:CQ r z)(j:z≠ -9223372036854775808):ZY r=some (bif Gb z then(z,true) else(z.sign,false)):=by
 unfold ZY
 congr 1
 rcases h with⟨h1,h2,h3⟩|⟨h0,h1,h2,h3,h4,h5⟩
 .unfold Cd at h3;have:Gb z=true:=by unfold Gb;rw[B1 h3.1,B1 h3.2];rfl
  rw[this,h1,h2];rfl
 .have:Gb z=false:=by
   unfold Gb;rcases h1 with e|e
   .grind
   .grind
  rw[this];have g:r.1=z.sign:=AK;have i:r.2.isEmpty=false:=AK;rw[g,i];rfl
def oi{r:Int}(e:0<y)(h:r+y*q=x)(g:0<=r)(i:r<y):q=x/y/\r=x%y:=by let⟨j,o⟩:=(Int.ediv_emod_unique e).2 ⟨h,g,i⟩;exact⟨j.symm,o.symm⟩
def vQ(e:0<y):(0<=x->0<=x/y/\x/y<=x)/\(x<0->x<=x/y/\x/y<0):=by
 constructor
 .intro h;exact⟨J5 h A4,QI y h⟩
 .intro h;refine⟨(Int.le_ediv_iff_mul_le e).2 ?_,Int.ediv_neg_of_neg_of_pos h e⟩;have:x*y<=x*1:=Int.mul_le_mul_of_nonpos_left A4 A4;omega
theorem vK{s:Int×A3 Int}(O:CQ r x)(v:CQ s y)(hx:Cc x=true)(hy:Cc y=true)(j:0<y):Yd (λq=>CQ q.1 (x/y)/\CQ q.2 (x%y)) (W9 r s):=by
 unfold W9;have hm0:=JY x (show y≠0 by omega);have hm1:=J8 x j;have hdm:=MJ x y;refine Ab (λJ=>?_)<|λJ=>?_
 .let⟨J,h3⟩:=DY J;let⟨h1,h2⟩:=DY J;rw[Ui] at h1 h2;rw[F6,Gm] at h3;rcases O with⟨_,e1,i1⟩|⟨j,_⟩
  .rcases v with⟨_,e2,i2⟩|⟨j,_⟩
   .rw[e1] at h3;rw[e1,e2];unfold Cd at i1 i2;have t1:=Int.tmod_add_mul_tdiv x y;have hsm:=vQ (x:=x) j;have q1:FV x y=some (x.tdiv y):=by unfold FV;rw[Bb A4];refine Dj ?_;have a1:=Int.natAbs_tdiv_le_natAbs x y;exact⟨A4,A4⟩
    have S:Ex x y=some (x.tmod y):=by unfold Ex;rw[Bb A4];rfl
    have b2:(0<=x->0<=x.tmod y/\x.tmod y<y)/\(x<0-> -y<x.tmod y/\x.tmod y<=0):=by refine⟨λh=>⟨Int.tmod_nonneg y h,Int.tmod_lt_of_pos x j⟩,λh=>?_⟩;have h5:=Int.tmod_lt_of_pos (-x) j;have h6:=Int.tmod_nonneg y (show 0<= -x by omega);rw[Int.neg_tmod] at h5 h6;omega
    refine A5 q1<|A5 S<|CZ (λs=>s.1=x/y/\s.2=x%y) (λs ⟨s1,s2⟩=>AV ⟨.inl ⟨rfl,s1,?_⟩,.inl ⟨rfl,s2,?_⟩⟩)<|λk L=>Ab (λi=>?_)<|λi=>?_
    .unfold Cd;omega
    .unfold Cd;omega
    .have i:=Aq i;let⟨B,C⟩:=oi (x:=x) (q:=x.tdiv y-1) (r:=x.tmod y+y) j (by rw[S7,JS];omega) A4 A4;refine A5 BE<|A5 BE<|L _ ⟨B,C⟩
    .grind
   .grind
  .grind
 .have l1:=O.len hx;have l2:=v.len hy;refine Au (O0 O) λp ⟨p1,p2,p3,p4⟩=>Au (O0 v) λq ⟨q1,S,M,q4⟩=>?_
  have T:q.2≠[]:=λe=>by rw[e] at M;simp[AN] at M;omega
  refine Au (vJ p2 S T A4 A4) λd ⟨⟨d1,d2⟩,d3,d4⟩=>Au (Rw d1 p.1) λQ o=>Au (Rw d3 p.1) λR g=>?_
  rw[d2,p3,M,p1] at o;rw[d4,p3,M,p1] at g;have ey:(y.natAbs:Int)=y:=A4;rw[ey] at o g;have F:=JY (x.natAbs:Int) (show y≠0 by omega);have G:=J8 (x.natAbs:Int) j;have I:=MJ (x.natAbs:Int) y;refine A5 (UN g)<|CZ (λs=>CQ s.1 (x/y)/\CQ s.2 (x%y)) (λs v=>AV v)<|λk L=>Ab (λi=>?_)<|λi=>?_
  .have i:=Aq i;have t:(bif decide (x<0) then -((x.natAbs:Int)%y) else(x.natAbs:Int)%y)<0:=AK;by_cases u:x<0
   .rw[B1 u] at o g t;simp[BF] at o g t;have U:(x.natAbs:Int)= -x:=A4;rw[U] at o g t F G I;let⟨B,C⟩:=oi (x:=x) (q:= -(-x/y)-1) (r:= -(-x%y)+y) j (by rw[S7,JS,Int.mul_neg];omega) A4 A4;have V:Lt 1=some (1,[]):=rfl;have W:CQ (1,[]) 1:= .inl ⟨rfl,rfl,by unfold Cd;omega⟩;have Z:Cc (-(-x/y))=true:=by refine V6 ?_ hx;have:=(vQ (x:= -x) j).1 A4;omega
    have aqu:Cc (-(-x%y))=true:=by refine V6 ?_ hy;omega
    refine A5 V (Au (zN o W Z rfl) λa ha=>Au (dO g v (by have:=g.len aqu;omega) A4) λb hb=>L _ ⟨?_,?_⟩)
    .rwa [B] at ha
    .rwa [C] at hb
   .grind
  .have i:=BX i;refine L _ ?_;by_cases u:x<0
   .rw[B1 u] at o g i;simp only[BF] at o g i;have U:(x.natAbs:Int)= -x:=A4;rw[U] at o g i F G I;have hz: -x%y=0:=AK;let⟨B,C⟩:=oi (x:=x) (q:= -(-x/y)) (r:= -(-x%y)) j (by rw[Int.mul_neg];omega) A4 A4;rw[B] at o;rw[C] at g;exact⟨o,g⟩
   .grind
theorem pB{s:Int×A3 Int}(h:CQ r x)(g:CQ s y)(i:Cc x=true)(j:Cc y=true)(B:y≠0):Yd (λq=>CQ q<|x.fdiv y) (WZ r s):=by
 unfold WZ;refine A5 (UN g)<|CZ (λt=>∃a b:Int,CQ t.1 a/\CQ t.2 b/\Cc a=true/\Cc b=true/\0<b/\a/b=x.fdiv y) ?_<|λk o=>Ab (λe=>?_)<|λe=>?_
 .rintro t ⟨a,b,h1,h2,h3,h4,h5,h6⟩;refine Au (vK h1 h2 h3 h4 h5) λq ⟨p,_⟩=>AV ?_
  rwa [h6] at p
 .have e:=Aq e;have C:y<0:=AK;refine Au (Q7 h) λa u=>Au (Q7 g) λb v=>o _ ⟨-x,-y,u,v,by rw[oO];exact i,by rw[oO];exact j,A4,?_⟩
  rw[<-Int.fdiv_eq_ediv_of_nonneg _ (show 0<= -y by omega),Int.neg_fdiv_neg]
 .grind
def iI(r:Int×A3 Int):Int:=if r.2=[] then r.1 else r.1*AN r.2
def CQ.val(h:CQ r z):iI r=z:=by
 unfold iI;rcases h with⟨h1,h2,_⟩|⟨h0,_,_,_,h4,_⟩
 .rw[if_pos h1,h2]
 .rw[if_neg h0,h4]
def muG(a b:Nat):Nat:=if b=0 then 0 else Nat.log2 (a*b)+1+(if a<b then 1 else 0)
def zY(h:m<=n):Nat.log2 m<=Nat.log2 n:=by
 by_cases e:m=0
 .subst e;simp
 .exact pJ<|CA ((Nat.le_log2 e).1<|BJ _) h
theorem ni{a b:Nat}(h:b≠0):muG b (a%b)<muG a b:=by
 have o:=M1 a (show b>0 by omega);unfold muG;rw[if_neg h];by_cases i:a%b=0
 .grind
 .rw[if_neg i,if_neg (show¬b<a%b by omega)];by_cases e:a<b
  .rw[if_pos e,QK e,Jw];omega
  .rw[if_neg e];have p:2*(a%b)<=a:=by have:=Nat.mod_add_div a b;have g:1<=a/b:=(Nat.one_le_div_iff A4).2 A4;have j:b*1<=b*(a/b):=YC _ g;omega
   have g:2*(b*(a%b))<=a*b:=by have:=YC b p;rw[Nat.mul_left_comm,Jw b a] at this;exact this
   have j:b*(a%b)≠0:=Nat.mul_ne_zero h i;have t:=zY g;have u:Nat.log2 (2*(b*(a%b)))=Nat.log2 (b*(a%b))+1:=by rw[Nat.log2_two_mul j]
   omega
def qH{a b:Nat}(i:Nat.log2 a<1099511627776)(j:Nat.log2 b<1099511627776):muG a b<18446744073709551616:=by
 unfold muG;have g:a<2^(Nat.log2 a+1):=Nat.lt_log2_self;have h:b<2^(Nat.log2 b+1):=Nat.lt_log2_self;have o:Nat.log2 (a*b)<Nat.log2 a+1+(Nat.log2 b+1):=by
  by_cases e:a*b=0
  .rw[e];simp;omega
  .rw[N7 e,KU];exact Nat.mul_lt_mul'' g h
 split
 .omega
 .split<;>omega
theorem zP{s:Int×A3 Int}(v:CQ r x)(B:CQ s y)(i:Cc x=true)(j:Cc y=true):Yd (λq=>CQ q (Int.gcd x y:Int)) (bG r s):=by
 unfold bG;refine Au (pD v) λa o=>Au (pD B) λb u=>?_
 have C:=Cs i;have F:=Cs j;refine Dl (λt:(Int×A3 Int)×(Int×A3 Int)=>∃a b:Nat,CQ t.1 (a:Int)/\CQ t.2 (b:Int)/\Nat.gcd a b=Int.gcd x y/\Cc a=true/\Cc b=true) (λt:(Int×A3 Int)×(Int×A3 Int)=>muG (iI t.1).natAbs (iI t.2).natAbs) ?_ _ _ ⟨x.natAbs,y.natAbs,o,u,rfl,by simpa[Cc] using i,by simpa[Cc] using j⟩ ?_
 .rintro next ⟨p,q⟩ ⟨a,b,h1,h2,h3,h4,h5⟩ hn
  simp only at h1 h2 hn⊢;refine A5 (UN h2)<|Ab (λh=>?_)<|λh=>?_
  .have hb0:b≠0:=λe=>by subst e;simp at h
   refine Au (vK h1 h2 h4 h5 A4) λd ⟨_,I⟩=>?_
   have g:CQ d.2 ((a%b:Nat):Int):=AK;have G:=M1 a (show b>0 by omega);refine hn _ ⟨b,a%b,h2,g,?_,h5,V6 A4 h5⟩ ?_
   .rw[<-h3,QD b<|a%b,<-Nat.gcd_rec,QD]
   .dsimp only;rw[h2.val,g.val,h1.val];exact ni hb0
  .have hb0:b=0:=by rw[Uo,G0] at h;have:=Int.sign_eq_zero_iff_zero.1 h;omega
   subst hb0;refine AV ?_;rw[Nat.gcd_zero_right] at h3;rw[<-h3];exact h1
 .dsimp only;rw[o.val,u.val];exact qH (by show Nat.log2 x.natAbs<_;omega) (by show Nat.log2 y.natAbs<_;omega)
end
end Trn
namespace Go.Proofs
section
open Go.Shelf
def lD:Go.Shelf.Ren:=⟨fun|166=>266|169=>267|240=>308|276=>343|n=>n,fun|0=>0|3=>3|9=>9|5=>5|72=>320|70=>317|37=>318|4=>4|20=>20|75=>303|80=>252|164=>382|n=>n,fun|n=>n⟩
def amE:Go.Proofs.Lays.n166 prog lD:={
 mixed:=Trn.A6
 f166:=func266.trans<|congrArg some Trn.A6
 f240:=func308.trans<|congrArg some Trn.A6
 f276:=func343.trans<|congrArg some Trn.A6
 t0:=underlying0
 a0:=isAgg0
 z0:=sizeOf0
 v0:=zeroValue0
 t3:=underlying3
 a3:=isAgg3
 z3:=sizeOf3
 v3:=zeroValue3
 t4:=underlying4
 a4:=isAgg4
 z4:=sizeOf4
 v4:=zeroValue4
 t9:=underlying9
 a9:=isAgg9
 z9:=sizeOf9
 v9:=zeroValue9
 t20:=underlying20
 a20:=isAgg20
 z20:=sizeOf20
 v20:=zeroValue20
 t37:=underlying318
 a37:=isAgg318
 z37:=sizeOf318
 v37:=zeroValue318
 t70:=underlying317
 a70:=isAgg317
 z70:=sizeOf317
 v70:=zeroValue317
 t72:=underlying320
 a72:=isAgg320
 z72:=sizeOf320
 v72:=zeroValue320
 t75:=underlying303
 a75:=isAgg303
 z75:=sizeOf303
 v75:=zeroValue303
 t164:=underlying382
 a164:=isAgg382
 z164:=sizeOf382
 v164:=zeroValue382}
def acR:Builder.Extra prog lD:={
 sizeBuilder:=Trn.A6
 liesBuilder:=Trn.A6
 t5:=underlying5
 a5:=isAgg5
 z5:=sizeOf5
 v5:=zeroValue5
 infoByte:=Trn.A6
 cellsByte:=Trn.A6
 sizeByte:=Trn.A6
 neB5:=by decide}
end
end Go.Proofs
namespace Trn
section
open Go.Shelf
variable[D:DR]
variable{x c y:Int}{r:Int×Int}
def xT{l s:AA}{r:AA×Int×Unit}(e:UP l s=some r):H7 prog 266 [] (.GK 320 5<|lB l) (.GK 320 5<|lB r.1) [TS s] [TI .i64 r.2.1,rN r.2.2]:=ain (ρ:=lD) amE acR A6 e
def ahh{l r:AA}(e:XC l=some r):H7 prog 267 [] (.GK 320 5<|lB l) .gone [] [TS r]:=agt (ρ:=lC) amD acQ A6 e
def index_one(c:UInt8):∀s:AA,Lib.index s [c]= -1\/0<=Lib.index s [c]
 |[]=> .inl rfl
 |b::l=>by have:=Lib.index_ge (b::l) [c];omega
def akX(c b:UInt8)(l:AA):Lib.cut (b::l) [c]=if c==b then([],l,true) else(b::(Lib.cut l [c]).1,(Lib.cut l [c]).2.1,(Lib.cut l [c]).2.2):=by
 have e:Lib.index (b::l) [c]=if c==b then 0 else if Lib.index l [c]== -1 then -1 else Lib.index l [c]+1:=by simp[Lib.index,List.isPrefixOf]
 unfold Lib.cut;rw[e];by_cases h:(c==b)=true
 .simp[h]
 .simp only[Bool.not_eq_true] at h;simp only[h];rcases index_one c l with g|g
  .simp[g]
  .have h2: ¬Lib.index l [c]= -1:=A4;have i:(0:Int)<=Lib.index l [c]+1:=A4;have j:(Lib.index l [c]+1).toNat=(Lib.index l [c]).toNat+1:=A4;simp[g,h2,i,j]
def bu(c:UInt8):∀(s g:AA),cutAt c g s=(g.reverse++(Lib.cut s [c]).1,(Lib.cut s [c]).2.1,(Lib.cut s [c]).2.2)
 |[],g=>by
  have:Lib.cut [] [c]=([],[],false):=by unfold Lib.cut;simp[Lib.index]
  simp[cutAt,this]
 |b::l,g=>by
  rw[akX];unfold cutAt;by_cases h:(c==b)=true
  .have h':(b==c)=true:=by rw[N5] at h⊢;exact h.symm
   simp[h,h']
  .have h':(b==c)=false:=by cases e:(b==c) with|false=>rfl|true=>exact absurd (by rw[N5] at e⊢;exact e.symm) h
   simp only[Bool.not_eq_true] at h;simp[h,h',bu c l (b::g)]
def apu{w:AS}{H:HV}(sub:∀r o,H r=some o->w.heap[r]? =some o)(gl:JD prog H):∃m,w.cell? ⟨0,0,none⟩=some (.int .i64 m):=by have g:(prog.globals[0]?).map (·.type)=some 3:=A6;have:=gl 0 3 g;have h:prog.underlying 3=some (.int .i64):=A6;unfold Qb at this;rw[h] at this;let⟨m,E,fr,e⟩:=this;exact⟨m,by simp[World.cell?,sub _ _ e]⟩
def aae{x y:AA}{r:AA×AA×Bool}(g:gh x y=some r):AQ 185 [TS x,TS y] [TS r.1,TS r.2.1,Az r.2.2]:=by
 match y,g with
 |[c],g=>
  obtain⟨h,rfl⟩:=Fm g;have h:x.length<4294967281:=Cs h;refine Pl A6 λw H vs sub gl o=>?_
  obtain⟨u,v,rfl,i,j⟩:=S3 o;have i:u= .string ⟨x.toArray⟩:=i;have j:v= .string ⟨#[c]⟩:=j;subst i;subst j;let⟨m,g⟩:=apu sub gl;refine(strings_Cut ⟨x.toArray⟩ ⟨#[c]⟩ m w (by simpa[ByteArray.size] using h) g).mono ?_;rintro e w' ⟨rfl,n,rfl⟩;refine⟨_,rfl,⟨⟨rfl,rfl,rfl,BJ _,λ_ _=>rfl⟩,Fe.of<|SI _ _⟩,_,rfl,_,_,rfl,?_,_,_,rfl,?_,_,_,rfl,?_,rfl⟩
  .rw[bu];rfl
  .rw[bu];rfl
  .rw[bu];rfl
def adf(w:AS)(e:Ap)(s:ByteArray):Ea w.heap.size w (Lib.bytesWorld w e s):=⟨⟨by unfold Lib.bytesWorld World.freeze;split<;>rfl,by unfold Lib.bytesWorld World.freeze;split<;>rfl,by unfold Lib.bytesWorld World.freeze;split<;>rfl,by rw[Lib.bytesWorld_size];omega,λk g=>Lib.bytesWorld_at_old w e s k g⟩,Fe.of (by unfold Lib.bytesWorld World.freeze;split<;>exact OE _)⟩
def uk:∀(l:AA) (acc:Nat),l.all DM=true->Lib.decFrom acc l=some (l.foldl (λn b=>10*n+(b.toNat-48)) acc)
 |[],acc,_=>rfl
 |b::l,acc,h=>by rw[M3,Bq] at h;let⟨e,g⟩:=h;unfold DM at e;rw[Bq] at e;have i:=Cs e.1;have j:=Cs e.2;unfold Lib.decFrom Lib.digitVal;rw[if_pos ⟨i,j⟩];simp only[di];rw[uk l _ g,Jw]
def afn{s:AA}(j:s.isEmpty=false)(h:s.all DM=true):Lib.atoi s=some (BP s:Int):=by
 match s,j,h with
 |b::l,_,h=>
  have g:DM b=true:=by rw[M3,Bq] at h;exact h.1
  unfold DM at g;rw[Bq] at g;have i:=Cs g.1;have o:(b==45)=false:=by cases e:b==45 with|false=>rfl|true=>rw[N5] at e;subst e;exact absurd i IK
  have p:(b==43)=false:=by cases e:b==43 with|false=>rfl|true=>rw[N5] at e;subst e;exact absurd i IK
  have t:Lib.decNat (b::l)=some (BP (b::l)):=by unfold Lib.decNat;rw[if_neg AO];exact uk _ 0 h
  show(if(b==45)=true then(Lib.decNat l).map λ(m:Nat)=> -(m:Int) else if(b==43)=true then(Lib.decNat l).map λ(m:Nat)=>(m:Int) else(Lib.decNat (b::l)).map λ(m:Nat)=>(m:Int))=_;rw[o,p,t]
  rfl
def ank{x:AA}{r:Int×Unit}(o:Yb x=some r):AQ 253 [TS x] [TI .i64 r.1,rN r.2]:=by
 obtain⟨j,rfl⟩:=Fm o;rw[Bq,Bq] at j;let⟨⟨g,h⟩,p⟩:=j;have g:x.isEmpty=false:=by simpa using g
 have h:=Cs h;refine Pl A6 λw H vs sub gl v=>?_
 obtain⟨u,rfl,i⟩:=N2 v;have i:u= .string ⟨x.toArray⟩:=i;subst i;refine(strconv_Atoi ⟨x.toArray⟩ (BP x:Int) (by simpa[ByteArray.size] using h) (afn g p) w).mono ?_;rintro e w' ⟨rfl,t,rfl⟩;exact⟨_,rfl,adf w 5 t,_,rfl,_,_,rfl,rfl,_,_,rfl,rfl,rfl⟩
def lN:B9 AW->Sem AW:=λargs=>do
 let(x,y,b)<-Extern.MathBitsCarry.three "Sub64" args
 pure (Extern.MathBitsCarry.pair ((x+Extern.MathBitsCarry.m64-y-b)%Extern.MathBitsCarry.m64)<|if x<y+b then 1 else 0)
def aho{P:Bz}(X Y k:Nat)(e:k<=1)(w:AS):(lN #[.int .u64 (X:Int),.int .u64 (Y:Int),.int .u64 (k:Int)]).run P w=.ok (Extern.MathBitsCarry.pair ((X+18446744073709551616-Y-k)%18446744073709551616)<|if X<Y+k then 1 else 0) w:=by have:k=0\/k=1:=A4;rcases this with rfl|rfl<;>rfl
def Pk(h:Fi x=true):∃n:Nat,x=n/\n<18446744073709551616:=by unfold Fi at h;rw[Bq,G0,G0] at h;obtain⟨n,rfl⟩:=EI h.1;exact⟨n,rfl,A4⟩
def vX(h:(decide (c=0)||decide (c=1))=true):∃k:Nat,c=k/\k<=1:=by
 rw[OH,G0,G0] at h;rcases h with rfl|rfl
 .exact⟨0,rfl,A4⟩
 .exact⟨1,rfl,A4⟩
def wR{H:HV}{τ σ g:Ty}{vs:A3 AW}(h:Du H [τ,σ,g] vs):∃v u t,vs=[v,u,t]/\τ.ok H v/\σ.ok H u/\g.ok H t:=by let⟨v,rest,e,i,j⟩:=h;let⟨u,t,o,p,B⟩:=S3 j;subst o;exact⟨v,u,t,e,i,p,B⟩
def alJ(M X Y k:Nat)(e:Y<M)(g:k<=1):(((X+M-Y-k)%M:Nat):Int)=((X:Int)-Y-k)%(M:Int):=by have:((X+M-Y-k:Nat):Int)=((X:Int)-Y-k)+M:=A4;rw[Int.natCast_emod,this,Int.add_emod_right]
def sub_lt(X Y k:Nat):((if X<Y+k then 1 else 0:Nat):Int)=bif decide ((X:Int)<Y+k) then 1 else 0:=by
 by_cases h:X<Y+k
 .have h':(X:Int)<(Y:Int)+(k:Int):=A4;simp[h,h']
 .have h': ¬(X:Int)<(Y:Int)+(k:Int):=A4;simp[h,h']
def S1(g:JR x y c=some r):pf prog 279 [TI .u64 x,TI .u64 y,TI .u64 c] [TI .u64 r.1,TI .u64 r.2]:=by
 unfold JR at g;cases h:((Fi x&&Fi y)&&(decide (c=0)||decide (c=1)))
 .rw[h] at g;cases g
 rw[h] at g;have g:=E2 g;subst g;rw[Bq,Bq] at h;let⟨⟨p,B⟩,C⟩:=h;obtain⟨X,rfl,G⟩:=Pk p;obtain⟨Y,rfl,I⟩:=Pk B;obtain⟨k,rfl,J⟩:=vX C;refine⟨λw H vs F=>?_⟩;obtain⟨u,v,t,rfl,i,j,o⟩:=wR F;have i:u= .int .u64 (X:Int):=i;have j:v= .int .u64 (Y:Int):=j;have o:t= .int .u64 (k:Int):=o;subst i;subst j;subst o;refine⟨.tuple #[.int .u64<|((X:Int)+Y+k)%18446744073709551616,.int .u64<|((X:Int)+Y+k)/18446744073709551616],w,?_,⟨Below.refl _ _,BJ _⟩,?_⟩
 .rw[run_callFunc_extern func279 A6 A6 A6 (e:=add64Entry) A6];show Result.andThen ((add64Entry #[.int .u64 (X:Int),.int .u64 (Y:Int),.int .u64 (k:Int)]).run prog w) _=_;rw[run_add64 _ _ _ A4 A4 A4 A4 w]
  rfl
 .exact⟨_,rfl,_,_,rfl,rfl,_,_,rfl,rfl,rfl⟩
def oe(g:QA x y c=some r):pf prog 281 [TI .u64 x,TI .u64 y,TI .u64 c] [TI .u64 r.1,TI .u64 r.2]:=by
 unfold QA at g;cases h:((Fi x&&Fi y)&&(decide (c=0)||decide (c=1)))
 .rw[h] at g;cases g
 rw[h] at g;have g:=E2 g;subst g;rw[Bq,Bq] at h;let⟨⟨B,C⟩,F⟩:=h;obtain⟨X,rfl,J⟩:=Pk B;obtain⟨Y,rfl,G⟩:=Pk C;obtain⟨k,rfl,p⟩:=vX F;refine⟨λw H vs I=>?_⟩;obtain⟨u,v,t,rfl,i,j,o⟩:=wR I;have i:u= .int .u64 (X:Int):=i;have j:v= .int .u64 (Y:Int):=j;have o:t= .int .u64 (k:Int):=o;subst i;subst j;subst o;refine⟨Extern.MathBitsCarry.pair ((X+18446744073709551616-Y-k)%18446744073709551616)<|if X<Y+k then 1 else 0,w,?_,⟨Below.refl _ _,BJ _⟩,?_⟩
 .rw[run_callFunc_extern func281 A6 A6 A6 (e:=lN) A6];show Result.andThen ((lN #[.int .u64 (X:Int),.int .u64 (Y:Int),.int .u64 (k:Int)]).run prog w) _=_;rw[aho _ _ _ p w]
  rfl
 .refine⟨_,rfl,_,_,rfl,?_,_,_,rfl,?_,rfl⟩
  .exact congrArg (Value.int .u64)<|alJ 18446744073709551616 X Y k G p
  .exact congrArg (Value.int .u64)<|sub_lt X Y k
def cq(g:OC x y=some r):AQ 225 [TI .u64 x,TI .u64 y] [TI .u64 r.1,TI .u64 r.2]:=by
 unfold OC at g;cases h:(Fi x&&Fi y)
 .rw[h] at g;cases g
 rw[h] at g;have g:=E2 g;subst g;rw[Bq] at h;obtain⟨X,rfl,o⟩:=Pk h.1;obtain⟨Y,rfl,p⟩:=Pk h.2;refine Pl A6 λw H vs sub gl t=>?_
 obtain⟨u,v,rfl,i,j⟩:=S3 t;have i:u= .int .u64 (X:Int):=i;have j:v= .int .u64 (Y:Int):=j;subst i;subst j;refine(bits_Mul64 X Y o p w).mono ?_;rintro e w' ⟨rfl,rfl⟩;exact⟨_,rfl,Ea.refl _ _,_,rfl,_,_,rfl,congrArg (Value.int .u64) (by rw[Int.natCast_ediv,QH];rfl),_,_,rfl,congrArg (Value.int .u64) (by rw[Int.natCast_emod,QH];rfl),rfl⟩
def uJ:∀(f n:Nat),n<2^f->Lib.bitLenAux f n=LQ n
 |0,n,h=>by
  have:n=0:=by simpa using h
  subst this;rfl
 |f+1,n,h=>by
  unfold Lib.bitLenAux LQ;by_cases g:n=0
  .subst g;rfl
  .rw[if_neg g,uJ f (n/2) (by rw[QC] at h;omega)];have i:Nat.beq n 0=false:=by cases e:Nat.beq n 0 with|false=>rfl|true=>exact absurd (DX e) g
   rw[i];unfold LQ;by_cases j:n/2=0
   .have:n=1:=A4;subst this;rfl
   .have hb2:Nat.beq (n/2) 0=false:=by cases e:Nat.beq (n/2) 0 with|false=>rfl|true=>exact absurd (DX e) j
    rw[hb2];show 1+(Nat.log2 (n/2)+1)=Nat.log2 n+1
    conv=>rhs;rw[Nat.log2_def,if_pos A4]
    omega
def bitLen_eq{n:Nat}(h:n<18446744073709551616):Lib.bitLen n=LQ n:=uJ 64 n h
def alW{r:Int}(g:Xt x=some r):AQ 248 [TI .u64 x] [TI .i64 r]:=by
 unfold Xt at g;cases h:Fi x
 .rw[h] at g;cases g
 rw[h] at g;have g:=E2 g;subst g;obtain⟨X,rfl,j⟩:=Pk h;refine Pl A6 λw H vs sub gl o=>?_
 obtain⟨u,rfl,i⟩:=N2 o;have i:u= .int .u64 (X:Int):=i;subst i;refine(bits_Len64 (X:Int) w A4 A4).mono ?_;rintro e w' ⟨rfl,rfl⟩;exact⟨_,rfl,Ea.refl _ _,congrArg (Value.int .i64) (by rw[CL,bitLen_eq j])⟩
def aDl{r:Int}(g:V9 x=some r):AQ 301 [TI .u64 x] [TI .i64 r]:=by
 unfold V9 at g;cases h:Fi x
 .rw[h] at g;cases g
 rw[h] at g;have g:=E2 g;subst g;obtain⟨X,rfl,j⟩:=Pk h;refine Pl A6 λw H vs sub gl o=>?_
 obtain⟨u,rfl,i⟩:=N2 o;have i:u= .int .u64 (X:Int):=i;subst i;refine(bits_LeadingZeros64 (X:Int) w A4 A4).mono ?_;rintro e w' ⟨rfl,rfl⟩;exact⟨_,rfl,Ea.refl _ _,congrArg (Value.int .i64) (by rw[CL,bitLen_eq j])⟩
end
section
variable{k:Nat}{x y:Rat}{z:Int}{n j:Nat}{r:Int×A3 Int}{a b:Nat}
def anm:Bool:=(List.range 19).all λk=>decide<|Wa (10,[]) (k:Int)=some ((10:Int)^k,[])
def ai1:anm=true:=A6
def aiC(h:k<=18):Wa (10,[]) (k:Int)=some ((10:Int)^k,[]):=by
 have:=DC.1 ai1 k<|OG.2 A4
 exact Aq this
theorem bC:∀(l:AA) (n:Nat),l.foldl (λn b=>10*n+(b.toNat-48)) n=n*10^l.length+BP l
 |[],n=>by simp[BP]
 |b::l,n=>by
  have e:BP (b::l)=(b.toNat-48)*10^l.length+BP l:=by show l.foldl (λn b=>10*n+(b.toNat-48)) (10*0+(b.toNat-48))=_;rw[bC l,Nat.mul_zero,N9]
  rw[di,bC l,e,IX,DP,QC];have:10*n*10^l.length=n*(10^l.length*10):=AK;omega
def Wj(l m:AA):BP (l++m)=BP l*10^m.length+BP m:=by show(l++m).foldl _ 0=_;rw[List.foldl_append,bC m];rfl
theorem aiJ{b:UInt8}(h:DM b=true):b.toNat-48<=9:=by simp_all [DM]
def O8:∀(l:AA),l.all DM=true->BP l<10^l.length
 |[],_=>by simp[BP]
 |b::l,h=>by rw[M3] at h;let⟨e,g⟩:=DY h;have:=O8 l g;have i:=aiJ e;show(b::l).foldl _ 0<_;rw[di,bC l,DP,QC];have:(10*0+(b.toNat-48))*10^l.length<=9*10^l.length:=JA _ A4;omega
def Lx(h:z.natAbs<10^n)(g:n<=100000000):Cc z=true:=by
 unfold Cc;refine GR ?_;rcases Jb z.natAbs with e|e
 .rw[e];exact GR AO|>Cs
 .have h1:(10:Nat)^n<=(2^4)^n:=pM A4 n;rw[<-Nat.pow_mul] at h1;have:Nat.log2 z.natAbs<4*n:=(N7 A4).2 A4;omega
theorem aji{s:AA}(h:Hp s=some z):Yd (λq=>CQ q z) (ak s):=by
 have G:∀(ds:AA) (u:Bool) (w:Int),(ds.all DM&&Nat.blt ds.length 1000000)=true->w=(bif u then -(BP ds:Int) else(BP ds:Int))->Yd (λq=>CQ q w) (lp 18446744073709551616 (λ(k6:(AA×(Int×A3 Int))->A9 _) (p:AA×(Int×A3 Int))=>cond (decide<|(0:Int)<(p.1.length:Int)) (bd (Bo p.1 0<|mn_ (18:Int) (p.1.length:Int)) λx8=>bd (Yb x8) λTG=>bd (Lt (10:Int)) λR6=>bd (Wa R6<|mn_ (18:Int) (p.1.length:Int)) λNi=>bd (RO p.2 Ni) λrP=>bd (Lt TG.1) λTH=>bd (RP rP TH) λVm=>bd (Bo p.1 (mn_ (18:Int) (p.1.length:Int)) (p.1.length:Int)) λWA=>k6 (WA,Vm)) (cond u (bd (Lp p.2) λMu=>some Mu) (some p.2))) (ds,(0,[]))):=by
  intro ds u w S hw;let⟨hd,hl⟩:=DY S;have hl:ds.length<1000000:=Cs hl;refine Dl (λt:AA×(Int×A3 Int)=>t.1.all DM=true/\t.1.length<=ds.length/\∃v:Nat,CQ t.2 (v:Int)/\v<10^(ds.length-t.1.length)/\v*10^t.1.length+BP t.1=BP ds)
   (λt:AA×(Int×A3 Int)=>t.1.length) ?_ _ _ ⟨hd,BJ _,0,.inl ⟨rfl,rfl,by unfold Cd;omega⟩,by dsimp;rw[Nat.sub_self];decide,by dsimp;omega⟩ (by dsimp;omega)
  rintro next ⟨g,r⟩ ⟨h1,T,v,M,h4,O⟩ hn
  dsimp only at h1 T M h4 O hn⊢;have U:Cc (v:Int)=true:=Lx (n:=ds.length-g.length) (by simpa using h4) A4;refine Ab (λo=>?_)<|λo=>?_
  .have o:=Aq o;obtain⟨m,hm,C,hm2,hm3⟩:∃m:Nat,mn_ 18 (g.length:Int)=(m:Int)/\m<=18/\m<=g.length/\0<m:=by
    unfold mn_;by_cases h:(g.length:Int)<18
    .grind
    .rw[Bb h];exact⟨18,rfl,A4,A4,A4⟩
   rw[hm];have I:g=g.take m++g.drop m:=(MK m g).symm;have B:=h1;rw[I,dh] at B;let⟨a1,a2⟩:=DY B;have V:(g.take m).length=m:=AK;have J:(g.drop m).length=g.length-m:=Hj;have aq:=Wj (g.take m)<|g.drop m
   rw[<-I,J] at aq;have i:=O8 _ a1;rw[V] at i;have asg:BP (g.take m)<10^18:=I6 i<|J9 A4 C
   have atA:(10:Nat)^m<=10^18:=J9 A4 C;have W:((10:Int)^m)=((10^m:Nat):Int):=AK;have Z:Yb (g.take m)=some ((BP (g.take m):Int),()):=by unfold Yb;have F:(g.take m).isEmpty=false:=AK;have e2:Nat.ble (g.take m).length 18=true:=GR A4;rw[F,e2,a1];rfl
   refine A5 (DV A4 A4 A4) ?_;have e0:(g.take ((m:Nat):Int).toNat).drop ((0:Int)).toNat=g.take m:=AO;rw[e0];refine A5 Z<|A5 (show Lt 10=some (10,[]) from rfl)<|A5 (aiC C) ?_
   have hp:0<(10:Nat)^m:=Xv A4;have hrp:CQ ((10:Int)^m,[]) ((10^m:Nat):Int):= .inl ⟨rfl,by dsimp only;exact W,by unfold Cd;omega⟩;have Tg:(10:Nat)^18<10^19:=IK;have aqt:Cc ((10^m:Nat):Int)=true:=Lx (n:=19) (by simp[EH];omega) A4;refine Au (zO M hrp U aqt) λq Q=>?_
   refine A5 (show Lt (BP (g.take m):Int)=some ((BP (g.take m):Int),[]) from rfl) ?_;have hrd:CQ ((BP (g.take m):Int),[]) (BP (g.take m):Int):= .inl ⟨rfl,rfl,by unfold Cd;omega⟩;have arB:ds.length-(g.drop m).length=(ds.length-g.length)+m:=by rw[J];omega
   have VM:v*10^m+BP (g.take m)<10^(ds.length-(g.drop m).length):=by rw[arB,KU];have:(v+1)*10^m<=10^(ds.length-g.length)*10^m:=JA _ A4;rw[IX,Iu] at this;omega
   have aqs:Cc ((v:Int)*((10^m:Nat):Int))=true:=by rw[<-QH];exact Lx (n:=ds.length-(g.drop m).length) (by simp only[EH];omega) A4
   have hlq:=Q.len aqs;refine Au (dO Q hrd A4 AO) λq2 hq2=>?_
   refine A5 (DV A4 A4 A4) ?_;have F:(g.take ((g.length:Nat):Int).toNat).drop ((m:Nat):Int).toNat=g.drop m:=AO;rw[F];refine hn _ ⟨a2,by dsimp;omega,v*10^m+BP (g.take m),?_,VM,?_⟩ (by dsimp;omega)
   .grind
   .grind
  .have o:=BX o;have h0:g=[]:=Hk A4;subst h0;have O:v=BP ds:=by simpa[BP] using O
   subst O;subst hw;cases u
   .exact Ab (λh=>by cases h)<|λ_=>AV M
   .exact Ab (λ_=>Au (Q7 M) λq Q=>AV Q) (λh=>by cases h)
 have hp:∀b:Bool,(decide ((([45]:AA).length:Int)<=(s.length:Int))&&(s.take 1==[45]))=b->Lh s [45]=some b:=by
  intro b i;unfold Lh;cases o:decide ((([45]:AA).length:Int)<=(s.length:Int)) with
  |false=>rw[o] at i;rw[M4] at i;subst i;rfl
  |true=>rw[o] at i;have o:=Aq o;show bd (Bo s 0<|(([45]:AA).length:Int)) _=_;rw[DV A4 A4 o];exact congrArg some i
 have L:∀(b:Bool) (ds:AA),Lh s [45]=some b->(b=true->s=45::ds)->(b=false->ds=s)->(ds.all DM&&Nat.blt ds.length 1000000)=true->z=(bif b then -(BP ds:Int) else(BP ds:Int))->Yd (λq=>CQ q z) (ak s):=by
  intro b ds F e2 e2' e3 e4;unfold ak;refine A5 (x:=b) ?_<|A5 (x:=ds) ?_<|G ds b z e3 e4
  .unfold j5;rw[F];rfl
  .unfold R7 Vl;rw[F];cases b
   .rw[e2' rfl];rfl
   .rw[e2 rfl];show bd (bd (Bo (45::ds) 1 (((45::ds:AA).length:Nat):Int)) _) _=_;rw[DV A4 (by rw[DP];omega)<|Int.le_refl _];show some _=some _;simp
 unfold Hp at h;split at h
 .rename_i ds;obtain⟨i,rfl⟩:=Fm h;refine L true ds (hp true ?_) (λ_=>rfl) (λh=>by cases h) i rfl;rw[B1 (show((([45]:AA).length:Nat):Int)<=(((45::ds:AA).length:Nat):Int) by simp[DP,SG];omega)]
  rfl
 .rename_i hne;obtain⟨i,rfl⟩:=Fm h;refine L false s (hp false ?_) (λh=>by cases h) (λ_=>rfl) i rfl;cases s with
  |nil=>rfl
  |cons c l=>
   have:c≠45:=λe=>hne l (by rw[e])
   have T:((c::l).take 1==[45])=false:=by simp[this]
   rw[T,Y3]
def aiE(e:n≠0)(g:2^k<=n)(h:n<2^(k+1)):Nat.log2 n=k:=(Nat.log2_eq_iff e).2 ⟨g,h⟩
theorem aiw{w:A3 Int}{t:Nat}(o:okW w)(J:w.length=k+1)(p:w.getD k 0=(t:Int))(u:t≠0):((AN w).toNat).log2=64*k+t.log2:=by
 have h:AN w=AN (w.take k)+B2 k*(t:Int):=by have:AN (w.take<|k+1)=AN w:=AK;rw[<-this,EN,p]
 let⟨v,g⟩:=FN<|Jq o k
 rw[Dd,Ds A4] at g;rw[oj] at h g;let⟨L,B⟩:=EI v;rw[B] at h g;have e:(AN w).toNat=L+2^(64*k)*t:=AK;have C:L<2^(64*k):=AK;let⟨l1,F⟩:=XD u;have M:0<2^(64*k):=Nat.two_pow_pos _;have G:2^(64*k)*2^t.log2<=2^(64*k)*t:=YC _ l1;have i:2^(64*k)*(t+1)<=2^(64*k)*2^(t.log2+1):=YC _ F;rw[<-KU] at G i;rw[Nat.mul_add,Nat.mul_one] at i;have I:0<2^(64*k+t.log2):=Nat.two_pow_pos _;rw[e];exact aiE A4 A4 (by rw[Iw];omega)
theorem ajk(h:CQ r z)(J:Cc z=true):jk r=some (bif decide (z=0) then 0 else(Nat.log2 z.natAbs:Int)+1):=by
 refine F8 ?_;unfold jk;have I:=h.len J;refine Au (O0 h) ?_;rintro⟨L,w⟩ ⟨_,i,v,M⟩;dsimp only at i v M⊢;refine Ab (λo=>?_)<|λo=>?_
 .have o:=Aq o;have p:w=[]:=Hk A4;subst p;have:z=0:=by have:(0:Int)=(z.natAbs:Int):=v;omega
  subst this;exact AV rfl
 .have o:=BX o;obtain⟨k,B⟩:∃k,w.length=k+1:=⟨w.length-1,A4⟩;have O:((w.length:Int)-1)=((k:Nat):Int):=A4;rw[O];have Q:=Ev i.1 k;let⟨t,g⟩:=EI Q.1;have p:t≠0:=by intro e;subst e;refine i.2 ?_;rw[List.getLast?_eq_getElem?,show w.length-1=k from by omega];rw[HD,FT A4] at g;rw[FT A4];simpa using g
  have u:=aiw i.1 B g p;rw[v,CL] at u;have C:z≠0:=by
   intro e;subst e;have:=Ri i.1 (by intro e;rw[e] at B;simp at B) i.2;have U:=JP<|w.length-1
   rw[v] at this;simp at this;omega
  have F:t<2^64:=AK;have G:Xt (t:Int)=some ((t.log2:Int)+1):=by
   unfold Xt Fi;rw[B1 (show(0:Int)<=(t:Int) by omega),B1 (show((t:Nat):Int)<18446744073709551616 by omega)];show some ((LQ ((t:Nat):Int).toNat:Nat):Int)=_;have:LQ t=Nat.log2 t+1:=by
    unfold LQ;have:Nat.beq t 0=false:=by cases S:Nat.beq t 0 with|false=>rfl|true=>exact absurd (DX S) p
    rw[this];rfl
   rw[CL,this];rfl
  have T:t.log2<64:=(N7 p).2 F;refine A5 BE<|A5 BE<|A5 BE<|A5 (Bc A4) ?_
  rw[g];refine A5 G<|A5 BE<|AV ?_
  rw[Bb C,u];simp only[Av];omega
theorem CQ.one(h:CQ r z):((List.isEmpty r.2)&&decide (r.1=(1:Int)))=decide (z=1):=by grind [CQ]
theorem ajj{s:Int×A3 Int}{x y:Int}(L:CQ r x)(B:CQ s y)(M:Cc x=true)(C:Cc y=true)(F:y≠0):Yd (λq=>CQ q.1 ((x:Rat)/(y:Rat)).num/\CQ q.2 (((x:Rat)/(y:Rat)).den:Int)) (lV r s):=by
 unfold lV;have O:((x:Rat)/(y:Rat)).num=(y.sign*x)/(Int.gcd y x:Int):=by rw[<-M8,da]
 have Q:(((x:Rat)/(y:Rat)).den:Int)=(y.natAbs:Int)/(Int.gcd y x:Int):=by rw[<-M8,dZ,if_neg F];rfl
 rw[O,Q];refine A5 (UN B)<|CZ (λt=>CQ t.1 (y.sign*x)/\CQ t.2 (y.natAbs:Int)) ?_<|λk S=>Ab (λu=>?_)<|λu=>?_
 .rintro⟨a,b⟩ ⟨o,i⟩;dsimp only at o i⊢;have T:Int.gcd (y.sign*x) (y.natAbs:Int)=Int.gcd y x:=by
   rw[Int.gcd_comm];unfold Int.gcd;rw[I4,EH]
   congr 1
   rcases Uk y 0 with h|h|h
   .grind
   .grind
   .grind
  have U:0<Int.gcd y x:=ek _ F;have G:Cc (y.sign*x)=true:=V6 (y:=x) (by
   rw[I4];rcases Uk y 0 with h|h|h
   .grind
   .grind
   .rw[Ur h];simp) M
  have I:Cc (y.natAbs:Int)=true:=V6 (y:=y) AO C;rw[CQ.one i];refine Ab (λv=>?_)<|λv=>?_
  .have v:=Aq v;have V:Int.gcd y x=1:=by unfold Int.gcd;rw[show y.natAbs=1 from by omega,Nat.gcd_one_left]
   rw[V];refine AV ⟨?_,?_⟩
   .grind
   .grind
  .refine Au (zP o i G I) λg e=>?_
   rw[T] at e;have J:Cc (Int.gcd y x:Int)=true:=V6 (y:=y) (by rw[EH];exact Nat.le_of_dvd A4<|Nat.gcd_dvd_left _ _) C
   refine Au (pB o e G J A4) λp W=>Au (pB i e I J A4) λq Z=>AV ⟨?_,?_⟩
   .grind
   .grind
 .have u:=Aq u;have hn:y<0:=AK;refine Au (Q7 L) λa o=>Au (Q7 B) λb i=>S _ ⟨?_,?_⟩
  .grind
  .grind
 .grind
def aAr:∀(f n:Nat) (acc:AA),n<f->Z0 f n acc=Lib.decDigits n++acc
 |0,n,_,h=>by omega
 |f+1,n,acc,h=>by
  unfold Z0;by_cases e:n<10
  .rw[show Nat.blt n 10=true from GR e,Lib.decDigits_one e];rfl
  .have:Nat.blt n 10=false:=by cases g:Nat.blt n 10 with|false=>rfl|true=>exact absurd (Cs g) e
   rw[this];show Z0 f (n/10) _=_;rw[aAr f (n/10) _ A4]
   conv=>rhs;rw[Lib.decDigits,dif_neg e]
   simp
def Uy(n:Nat):B5 n=Lib.decDigits n:=by unfold B5;rw[aAr _ _ _ A4];simp
def Lw(h:n<10):B5 n=[UInt8.ofNat<|48+n]:=by rw[Uy,Lib.decDigits_one h]
def Pm(h: ¬n<10):B5 n=B5 (n/10)++[UInt8.ofNat<|48+n%10]:=by rw[Uy,Uy,Lib.decDigits,dif_neg h]
theorem Jt:∀(k n:Nat),0<k->n<10^k->(B5 n).length<=k
 |0,_,h,_=>by omega
 |k+1,n,_,h=>by
  by_cases e:n<10
  .rw[Lw e];simp
  .rw[Pm e,DD];rcases Jb k with g|g
   .grind
   .have:=Jt k (n/10) g (by rw[QC] at h;omega);simp;omega
def Ga(k r:Nat):AA:=List.replicate (k-(B5 r).length) 48++B5 r
def ai6{r:Nat}(e:0<k)(g:r/10<10^k):Ga (k+1) r=Ga k (r/10)++[UInt8.ofNat<|48+r%10]:=by
 unfold Ga;by_cases h:r<10
 .rw[show r/10=0 from by omega,Lw h,Lw (show 0<10 by omega),show r%10=r from by omega];have:List.replicate (k+1-1) (48:UInt8)=List.replicate (k-1) 48++[48]:=by rw[show k+1-1=(k-1)+1 from by omega,List.replicate_succ']
  simp only[G2];rw[this];rfl
 .rw[Pm h,DD,G2,show k+1-((B5<|r/10).length+1)=k-(B5<|r/10).length from by omega,Fz]
def mG:∀(k q r:Nat),0<q->0<k->r<10^k->B5 (q*10^k+r)=B5 q++Ga k r
 |0,_,_,_,h,_=>by omega
 |k+1,q,r,hq,_,hr=>by
  rw[QC] at hr⊢;have i:0<10^k:=Xv A4;have o:10^k<=q*10^k:=Nat.le_mul_of_pos_left _ hq;rw[<-Nat.mul_assoc];rw[Pm A4,show(q*10^k*10+r)/10=q*10^k+r/10 from by omega,show(q*10^k*10+r)%10=r%10 from by omega];rcases Jb k with e|e
  .subst e;have g:r<10:=by simpa using hr
   rw[show r/10=0 from by omega,Nat.pow_zero,Nat.mul_one,SC];unfold Ga;rw[Lw g,show r%10=r from by omega];rfl
  .rw[mG k q (r/10) hq e A4,ai6 e A4,Fz]
def z7(c:Nat):iJ [48] c=List.replicate c 48:=by induction c with|zero=>rfl|succ c ih=>rw[List.replicate_succ,<-ih];rfl
def Norm.pos{w:A3 Int}(h:Norm w)(e:w≠[]):0<AN w:=by
 have:=Ri h.1 e h.2;have:=JP<|w.length-1
 omega
def agd{r:Nat}(h:r<1000000000000000000):(B5 r).length<=18:=Jt 18 r A4 (by simpa using h)
def akS{l:A3 AA}{x:AA}(h:l[n]? =some x):(l.drop n).reverse.flatten=(l.drop<|n+1).reverse.flatten++x:=by let⟨g,e⟩:=EP.1 h;rw[SV g,e,List.reverse_cons,List.flatten_append];simp
theorem yJ{l:A3 AA}(h:∀x∈l,x.length<=18):l.flatten.length<=18*l.length:=by induction l<;>grind
theorem agM(h:CQ r z)(hz:Cc z=true):Yd (λs=>s=Br z) (jN r):=by
 unfold jN;have hlen:=h.len hz;refine Ab (λZ=>?_)<|λZ=>?_
 .rcases h with⟨o,p,C⟩|⟨o,_⟩
  .have e:Ya z=some (Br z):=by
    unfold Ya;have:Gb z=true:=by unfold Cd at C;unfold Gb;rw[B1 C.1,B1 C.2];rfl
    rw[this];rfl
   rw[p];exact A5 e<|AV rfl
  .grind
 have VA:z.natAbs≠0:=by
  rcases h with⟨o,_⟩|⟨h0,o,p,C,h4,V⟩
  .rw[o] at Z;simp at Z
  .grind
 have asi:Nat.log2 z.natAbs<1099511627776:=Cs hz;refine Au (O0 h) ?_;rintro⟨neg,w0⟩ ⟨Q,p2,p3,p4⟩;dsimp only at Q p2 p3 p4⊢;refine Dl (λt:A3 Int×A3 AA=>Norm t.1/\(∀x∈t.2,x.length<=18)/\∃v:Nat,AN t.1=(v:Int)/\v<=z.natAbs/\t.2.length+(if v=0 then 0 else Nat.log2 v+1)<=Nat.log2 z.natAbs+1/\B5 z.natAbs=(if v=0 then [] else B5 v)++t.2.reverse.flatten)
  (λt:A3 Int×A3 AA=>if AN t.1=0 then 0 else Nat.log2 (AN t.1).toNat+1) ?_ _ _ ⟨p2,AO,z.natAbs,p3,BJ _,by dsimp only;rw[if_neg VA];simp,by dsimp only;rw[if_neg VA];simp⟩ (by dsimp only;rw[p3,CL];split<;>omega)
 rintro next ⟨w,l⟩ ⟨o,p,v,C,h4,V,S⟩ hn
 dsimp only at o p C h4 V S hn⊢;refine Ab (λu=>?_)<|λu=>?_
 .have u:=Aq u;have F:w≠[]:=by intro e;rw[e] at u;simp at u
  have MX:v≠0:=by have:=o.pos F;omega
  rw[if_neg MX] at V S;have hwl:w.length<=w0.length:=o.len (by have:=(FN p2.1).2;omega);have ajz:Norm ([1000000000000000000]:A3 Int):=⟨by rw[Mz];exact⟨⟨A4,by unfold BB;omega⟩,Xq⟩,AO⟩;refine Au (vJ o ajz AO A4 AO) ?_;rintro⟨q,m⟩ ⟨⟨d1,G⟩,d3,I⟩;dsimp only at d1 G d3 I⊢;have evb:AN ([1000000000000000000]:A3 Int)=1000000000000000000:=by simp[AN]
  rw[evb,C] at G I;have G:AN q=((v/1000000000000000000:Nat):Int):=by rw[G];rfl
  have I:AN m=((v%1000000000000000000:Nat):Int):=by rw[I];rfl
  have T:v%1000000000000000000<1000000000000000000:=M1 _ A4
  generalize hR:v%1000000000000000000=R at*
  refine CZ (λs=>s=B5 R) ?_ ?_
  rotate_left
  .intro k hk;refine Ab (λg=>?_)<|λg=>?_
   .have g:=Aq g;have hm1:m.length<=1:=d3.len (n:=1) (by rw[I];unfold B2;unfold BB;omega);obtain⟨x,rfl⟩:∃x,m=[x]:=by
     cases m with
     |nil=>simp at g
     |cons x t=>cases t with|nil=>exact⟨x,rfl⟩|cons _ _=>simp at hm1
    have W:x=(R:Int):=by rw[<-I];simp[AN]
    subst W;have ef:fj (R:Int) 10=some (B5 R):=by
     unfold fj Fi;rw[B1 (show(0:Int)<=(R:Int) by omega),B1 (show((R:Nat):Int)<18446744073709551616 by omega)]
     rfl
    exact A5 (show AB [(R:Int)] 0=some (R:Int) from rfl)<|A5 ef<|hk _ rfl
   .have g:=BX g;have hm0:m=[]:=Hk A4;subst hm0;have:R=0:=by have:(0:Int)=(R:Int):=I;omega
    subst this;exact hk _ rfl
  rintro s rfl;have hsl:=agd T;refine CZ (λs=>s.length<=18/\B5 v=(if v/1000000000000000000=0 then [] else B5 (v/1000000000000000000))++s) ?_ ?_
  rotate_left
  .intro k hk;refine Ab (λg=>?_)<|λg=>?_
   .have g:=Aq g;have J:v/1000000000000000000≠0:=by intro e;have:=d1.pos (by intro e';rw[e'] at g;simp at g);rw[G,e] at this;simp at this
    have er:fi [48] ((18:Int)-((B5 R).length:Int))=some (List.replicate (18-(B5 R).length) 48):=by
     unfold fi;rw[B1 (show(0:Int)<=(18:Int)-((B5 R).length:Int) by omega),B1 (show(18:Int)-((B5 R).length:Int)<=64 by omega)];show some (iJ [48] ((18:Int)-((B5 R).length:Int)).toNat)=_;rw[z7]
     congr 2
     omega
    have es:GZ (List.replicate (18-(B5 R).length) 48) (B5 R)=some (Ga 18 R):=by unfold GZ;rw[B1 (by rw[Kd];omega)];rfl
    refine A5 BE<|A5 er<|A5 es<|hk _ ⟨?_,?_⟩
    .unfold Ga;rw[DD,Kd];omega
    .rw[if_neg J];have:=mG 18 (v/1000000000000000000) R A4 A4 (by simpa using T);rw[show(10:Nat)^18=1000000000000000000 from rfl] at this;rw[<-this]
     congr 1
     omega
   .have g:=BX g;have hq:q=[]:=Hk A4;subst hq;have J:v/1000000000000000000=0:=by have:(0:Int)=((v/1000000000000000000:Nat):Int):=G;omega
    refine hk _ ⟨hsl,?_⟩;rw[if_pos J,Fy]
    congr 1
    omega
  rintro s ⟨s1,s2⟩;have ea:BC 16 l [s]=some (l++[s]):=by unfold BC;simp only[G2];rw[B1 A4,B1 A4];rfl
  have asr:v/1000000000000000000≠0->Nat.log2 (v/1000000000000000000)+1<=Nat.log2 v:=by
   intro L;have:=(XD L).1;have p:2^(Nat.log2 (v/1000000000000000000)+1)<=v:=by rw[QC];omega
   exact pJ p
  refine A5 ea<|hn _ ⟨d1,?_,v/1000000000000000000,G,A4,?_,?_⟩ ?_
  .grind
  .grind
  .grind
  .grind
 .have u:=BX u;have F:w=[]:=Hk A4;subst F;have MX:v=0:=by have:(0:Int)=(v:Int):=C;omega
  subst MX;rw[if_pos rfl] at V S;rw[Fy] at S;have hfl:=yJ (l:=l.reverse)<|λx hx=>p x<|List.mem_reverse.1 hx
  rw[List.length_reverse] at hfl;have bw:∀a b:AA,a.length+b.length<=140737488355328->UP a b=some (a++b,(b.length:Int),()):=by intro a b oD;unfold UP;rw[show Nat.ble (a.length+b.length) 140737488355328=true from GR oD];rfl
  refine CZ (λs=>s.length<=1/\s++B5 z.natAbs=Br z) ?_ ?_
  rotate_left
  .intro k hk;cases B:decide (z<0) with
   |true=>
    rw[B] at Q;subst Q;have et:Br z=45::B5 z.natAbs:=by unfold Br;rw[B];rfl
    refine Ab (λ_=>A5 (bw [] [45] AO) (hk ([]++[45]) ⟨AO,by rw[et];rfl⟩)) (λh=>by cases h)
   |false=>
    rw[B] at Q;subst Q;have et:Br z=B5 z.natAbs:=by unfold Br;rw[B];rfl
    exact Ab (λh=>by cases h) (λ_=>hk [] ⟨AO,by rw[et];rfl⟩)
  rintro U ⟨e1,e2⟩;refine A5 BE ?_;refine Dl (λt:AA×Int=> -1<=t.2/\t.2<l.length/\t.1=U++(l.drop (t.2+1).toNat).reverse.flatten) (λt:AA×Int=>(t.2+1).toNat) ?_ _ _ ⟨BO,BO,?_⟩ BO
  rotate_left
  .dsimp only;rw[show((l.length:Int)-1+1).toNat=l.length from by omega,QJ];simp
  rintro Gi ⟨b,i⟩ ⟨g1,g2,M⟩ Qn;dsimp only at g1 g2 M Qn⊢;refine Ab (λO=>?_)<|λO=>?_
  .have O:=Aq O;obtain⟨n,rfl⟩:=EI O;have Ge:n<l.length:=A4;have W:AB l (n:Int)=some l[n]:=by show l[n]? =_;exact FT Ge
   have at5:l[n].length<=18:=p _<|Ja Ge
   have arA:=yJ (l:=(l.drop (((n:Nat):Int)+1).toNat).reverse)<|λx hx=>p x<|SO<|List.mem_reverse.1 hx
   rw[List.length_reverse,Hj] at arA;refine A5 W (A5 W (A5 (bw b l[n] (by rw[M,DD];omega))<|A5 BE<|Qn _ ⟨BO,BO,?_⟩ BO));dsimp only;rw[show(((n:Nat):Int)-1+1).toNat=n from by omega,M,show(((n:Nat):Int)+1).toNat=n+1 from by omega,akS (x:=l[n])<|FT Ge,Fz]
  .have O:=BX O;have hi:i= -1:=A4;subst hi;have M:b=U++l.reverse.flatten:=M;have eb:b=Br z:=by rw[M,<-S,e2]
   have L:(!b.isEmpty)=true:=by
    rw[eb];have u:B5 z.natAbs≠[]:=λe=>by
     by_cases h:z.natAbs<10
     .rw[Lw h] at e;cases e
     .rw[Pm h] at e;simp at e
    unfold Br;cases decide (z<0) with
    |true=>rfl
    |false=>show(!(B5 z.natAbs).isEmpty)=true;cases h:B5 z.natAbs with|nil=>exact absurd h u|cons _ _=>rfl
   refine A5 (show XC b=some b by unfold XC;rw[L];rfl)<|AV ?_
   exact eb
def F0(n:Nat)(k:Nat):Prop:=Nat.log2 n<k
def alG(p:F0 a j)(t:F0 b k):F0 (a*b) (j+k+1):=by
 unfold F0 at*;by_cases e:a=0
 .subst e;simp
 by_cases g:b=0
 .subst g;simp
 have i:=(XD e).2;have o:=(XD g).2;have h:a*b<2^(Nat.log2 a+1)*2^(Nat.log2 b+1):=Nat.mul_lt_mul'' i o;rw[<-KU] at h;have:=(N7<|Nat.mul_ne_zero e g).2 h;omega
theorem alH(g:F0 a k)(i:F0 b k):F0 (a+b) (k+1):=by
 unfold F0 at*;by_cases e:a+b=0
 .rw[e];simp
 have o:a<2^k:=by
  by_cases h:a=0
  .grind
  .exact(N7 h).1 g
 have p:b<2^k:=by
  by_cases h:b=0
  .grind
  .exact(N7 h).1 i
 exact(N7 e).2 (by rw[QC];omega)
def aj4(h:a<=b)(e:F0 b k):F0 a k:=Nat.lt_of_le_of_lt (zY h) e
theorem Qd(h:F0 z.natAbs k)(e:k<=1099511627776):Cc z=true:=by(simp_all [F0,Cc]<;>omega)
theorem Rr{q:Rat}(h:EC q=true):F0 q.num.natAbs 68719476736/\F0 q.den 68719476736:=by simp_all [EC,F0]
theorem Hm{q:Rat}(h:F0 q.den k):F0 ((q.den:Int)).natAbs k:=by grind
def OS{a b:Int}(e:F0 a.natAbs 68719476736)(g:F0 b.natAbs 68719476736):F0 (a*b).natAbs 137438953473:=by rw[I4];exact alG e g
def anR{a b:Int}(e:F0 a.natAbs 137438953473)(g:F0 b.natAbs 137438953473):F0 (a+b).natAbs 137438953474:=aj4 (pL a b) (alH e g)
def aCR{x y:Int}(e:F0 x.natAbs j)(g:F0 y.natAbs k)(h:j<=1099511627776)(i:k<=1099511627776):R3 x y=some (x+y):=by unfold R3;rw[Qd e h,Qd g i];rfl
def Sd{x y:Int}(e:F0 x.natAbs j)(g:F0 y.natAbs k)(h:j<=1099511627776)(i:k<=1099511627776):ID x y=some (x*y):=by unfold ID;rw[Qd e h,Qd g i];rfl
def anG{x y:Int}(e:F0 x.natAbs j)(g:F0 y.natAbs k)(h:j<=1099511627776)(i:k<=1099511627776):Z2 x y=some (TD x y):=by unfold Z2;rw[Qd e h,Qd g i];rfl
def o9{x y:Int}(e:F0 x.natAbs j)(g:F0 y.natAbs k)(h:j<=1099511627776)(i:k<=1099511627776)(o:y≠0):MT x y=some ((x:Rat)/(y:Rat)):=by unfold MT;rw[Qd e h,Qd g i,Bb o];rfl
def xy(q:Rat):mkq q.num q.den=some q:=by obtain⟨d,g⟩:∃d,q.den=d+1:=⟨q.den-1,by have:=q.den_pos;omega⟩;unfold mkq;have e:=q.reduced;unfold Nat.Coprime at e;rw[g] at e⊢;show Dh (Nat.beq (Nat.gcd q.num.natAbs<|d+1) 1) (mkRat q.num<|d+1)=_;rw[e,<-g,Ub];rfl
def Xm(x y:Rat):(((x.num*y.den+y.num*x.den:Int)):Rat)/(((x.den:Int)*(y.den:Int):Int):Rat)=x+y:=by have h:=Rat.mkRat_add_mkRat x.num y.num x.den_nz y.den_nz;rw[Ub,Ub,Rat.mkRat_eq_div] at h;rw[h,<-QH];rfl
def Xl(x y:Rat):(((x.num*y.num:Int)):Rat)/(((x.den:Int)*(y.den:Int):Int):Rat)=x*y:=by have h:=Rat.mkRat_mul_mkRat x.num y.num x.den y.den;rw[Ub,Ub,Rat.mkRat_eq_div] at h;rw[h,<-QH];rfl
def wI(h:x.den=1):x=(x.num:Rat):=by have e:=Ub x;rw[h] at e;rw[<-Rat.mkRat_one,e]
def JC(x:Rat):(x.den:Int)≠0:=by have:=x.den_pos;omega
def ak6(x:Rat):jm x=some (-x):=by
 unfold jm;show bd (mkq (-x.num) x.den) _=_;have:=xy<| -x
 rw[Rat.neg_num,Rat.neg_den] at this;rw[this];rfl
def agY(z:Int):lA z=some (z:Rat):=by unfold lA;show bd (mkq z 1) _=_;have:=xy (z:Rat);rw[SF,Ue] at this;rw[show((1:Nat):Int)=1 from rfl] at this;rw[this];rfl
def akB(t:EC x=true)(u:EC y=true):ju x y=some (x+y):=by
 let⟨h,e⟩:=Rr t;let⟨i,b2⟩:=Rr u;have g:(bd (ID x.num (y.den:Int)) λv=>bd (ID y.num (x.den:Int)) λB=>bd (R3 v B) λC=>bd (ID (x.den:Int) (y.den:Int)) λF=>bd (MT C F) λG=>some G)=some (x+y):=by rw[Sd h (Hm b2) A4 A4];show bd (ID y.num (x.den:Int)) _=_;rw[Sd i (Hm e) A4 A4];show bd (R3 _ _) _=_;rw[aCR (OS h<|Hm b2) (OS i<|Hm e) A4 A4];show bd (ID (x.den:Int) (y.den:Int)) _=_;rw[Sd (Hm e) (Hm b2) A4 A4];show bd (MT _ _) _=_;rw[o9 (anR (OS h<|Hm b2)<|OS i<|Hm e) (OS (Hm e)<|Hm b2) A4 A4<|QG (JC x)<|JC y,Xm];rfl
 unfold ju;by_cases o:x.den=1
 .by_cases h2:y.den=1
  .have e1:JO x=some true:=by unfold JO;rw[B1 o]
   have p:JO y=some true:=by unfold JO;rw[B1 h2]
   rw[e1,p];show bd (R3 x.num y.num) _=_;rw[aCR h i A4 A4];show some ((x.num+y.num:Int):Rat)=_;rw[Rat.intCast_add,<-wI o,<-wI h2]
  .have e1:JO x=some true:=by unfold JO;rw[B1 o]
   have p:JO y=some false:=by unfold JO;rw[Bb h2]
   rw[e1,p];exact g
 .have e1:JO x=some false:=by unfold JO;rw[Bb o]
  rw[e1];exact g
def ak7(i:EC x=true)(o:EC y=true):jq x y=some (x*y):=by let⟨e,g⟩:=Rr i;let⟨h,b2⟩:=Rr o;unfold jq;rw[Sd e h A4 A4];show bd (ID (x.den:Int) (y.den:Int)) _=_;rw[Sd (Hm g) (Hm b2) A4 A4];show bd (MT _ _) _=_;rw[o9 (OS e h) (OS (Hm g)<|Hm b2) A4 A4<|QG (JC x)<|JC y,Xl];rfl
theorem alE(y:Rat):EC (-y)=EC y:=by simp_all [EC]
def ak5(e:EC x=true)(g:EC y=true):jl x y=some (x-y):=by unfold jl;show bd (Jg x<| -y) _=_;unfold Jg;rw[e,alE,g];show some (x+ -y)=_;rw[dx]
def ak8(g:EC x=true)(h:x≠0):jr x=some x⁻¹ :=by let⟨i,o⟩:=Rr g;unfold jr;rw[o9 (Hm o) i A4 A4 (by intro e;exact h<|KV.1 e),Rat.inv_def,M8];rfl
theorem alF(h:EC y=true)(e:y≠0):EC y⁻¹ =true:=by(simp_all [EC]<;>grind)
def ak9(h:EC x=true)(e:EC y=true)(g:y≠0):js x y=some (x/y):=by
 unfold js;have i:Yx y=some y⁻¹ :=by unfold Yx;rw[e,Bb g];rfl
 have o:FE x y⁻¹ =some (x*y⁻¹):=by unfold FE;rw[h,alF e g];rfl
 rw[i];show bd (FE x y⁻¹) _=_;rw[o,N6];rfl
def akA(i:EC x=true)(o:EC y=true):jt x y=some (bif decide (x<y) then -1 else bif decide (y<x) then 1 else 0):=by let⟨e,g⟩:=Rr i;let⟨h,b2⟩:=Rr o;unfold jt;rw[Sd e (Hm b2) A4 A4];show bd (ID y.num (x.den:Int)) _=_;rw[Sd h (Hm g) A4 A4];show bd (Z2 _ _) _=_;rw[anG (OS e<|Hm b2) (OS h<|Hm g) A4 A4];show some (TD _ _)=_;unfold TD;have p:decide (x.num*(y.den:Int)<y.num*(x.den:Int))=decide (x<y):=F5.2 (Rat.lt_iff x y).symm;have t:decide (y.num*(x.den:Int)<x.num*(y.den:Int))=decide (y<x):=F5.2 (Rat.lt_iff y x).symm;rw[p,t]
theorem aiT(g:EC x=true)(h:EC y=true):jV x y=some (decide<|x=y):=by
 unfold jV;have e:Jf x y=some (bif decide (x<y) then -1 else bif decide (y<x) then 1 else 0):=by unfold Jf;rw[g,h];rfl
 rw[e];show some (decide<|(bif decide (x<y) then(-1:Int) else bif decide (y<x) then 1 else 0)=0)=_
 congr 1
 by_cases i:x<y
 .grind
 .grind
end
section
open Go.Shelf
variable[D:DR]{P:Program}{ρ:Ren}
def vd(cs:B9 AW)(n:Nat):(Builtin.zeroCells cs n).size=n*cs.size:=by simp[Builtin.zeroCells]
def aiS(L:Lays8.n4 P ρ){α:Type}{f:α->Ty}{sz:Nat}{i0:TypeInfo}{z:AW}(p:P.info? (ρ.t 25)=some i0)(B:i0.zero=some z)(hs:i0.size=sz)(Q:0<sz)(S:z.cells.size=sz)(i:i0.bytes<=1000)
  (T:FQ P (ρ.f 4)=true){x r:A3 α}{n:Int}(U:qK x n=some r):Dy P (ρ.f 4) [TN f x,TI .i64 n] (.fr (ρ.t 25) sz<|lT f r):=by
 obtain⟨I,rfl⟩:=Fm U;rw[Bq,Bq] at I;let⟨⟨V,J⟩,M⟩:=I;have J:=Aq J;have M:=Aq M;have W:=Ui.1 V;subst W;refine⟨T,λw H vs sub gl Z=>?_⟩;obtain⟨v,u,rfl,C,F⟩:=S3 Z;have C:v= .slice none 0 0:=C.2 rfl;have F:u= .int .i64 n:=F;subst C F;obtain⟨m,rfl⟩:∃m:Nat,n=(m:Int):=⟨n.toNat,A4⟩;show Calls P (ρ.f 4) #[.slice none 0 0,.int .i64 m] w _;rcases Jb m with O|O
 .subst O;refine(Any8.slices_Grow_room L none 0 0 0 w (BJ _) A4 A4 A4).mono ?_;rintro e w' ⟨rfl,rfl⟩;exact⟨_,rfl,Ea.refl _ _,H,λ_ _=>rfl,sub,[],World.ownsRow_nil w' _ _ _,rfl,λb h=>by simp[Value.ownBlock] at h⟩
 .refine(Any8.slices_Grow_grow L i0 z p B A4 none 0 0 m [] w (BJ _) A4 (CA (Em (show 0+m<=100000000 by omega) i) A4) A4 AO (λ_=>rfl) (λa h=>by cases h)).mono ?_;rintro e w' ⟨rfl,rfl⟩;have hG:=grownCap_ge w (0+m) 0<|ρ.t 25
  have hM:=grownCap_le_maxLen w (0+m) 0 (ρ.t 25) (by unfold maxLen;omega)
  generalize grownCap w (0+m) 0 (ρ.t 25)=G at*
  generalize ho:Obj.cells (([]:A3 AW).toArray++Builtin.zeroCells z.cells (0+m-0)++Builtin.zeroCells z.cells (G-(0+m))) (ρ.t 25)=o
  have g:∀k,k<w.heap.size->(w.drew.alloc o).heap[k]? =w.heap[k]? :=λk hk=>Below.heap_alloc w.drew o k hk
  refine⟨_,rfl,⟨⟨rfl,rfl,rfl,(Ea.alloc (w:=w.drew) o).size,g⟩,?_⟩,H,λ_ _=>rfl,λr o hr=>?_,[],⟨AO,.inr ⟨w.heap.size,G,_,rfl,EU _,(JX w.drew o).trans<|congrArg some ho.symm,EU _,hM,?_,by simp[lT]⟩⟩,rfl,λb i=>?_⟩
  .exact Fe.of<|OE _
  .have:=sub r o hr;rw[g r (by
    rcases G8 r w.heap.size with h|h
    .exact h
    .rw[eQ h] at this;cases this)]
   exact this
  .rw[Array.size_append,Array.size_append,vd,vd,S];simp only[dq,SG,N9,Nat.sub_zero];rw[<-IX]
   congr 1;omega
  .have e:b=w.heap.size:=by simp[Value.ownBlock] at i;exact i.symm
   subst e;refine⟨BJ _,?_⟩;cases hH:H w.heap.size with
   |none=>rfl
   |some o=>have:=sub _ o hH;rw[eQ<|BJ _] at this;cases this
end
end Trn
namespace Md
section
open Go.Shelf Go.Sort Go.Lib
def afj(w:World)(T:TypeId)(nd:Nat)(h:nd<=24):Holds (λ(b:UInt8)=>Value.int .u8 (b.toNat:Int)) (w.alloc<| .cells zeros24 T) w.heap.size 0 (Array.replicate nd (0:UInt8)):=λj e=>by
 have g:j<nd:=by simpa using e
 refine⟨?_,World.frozen?_alloc_new _ _ _ _⟩;rw[World.cell?_alloc_new,Nat.zero_add,zeros24_at _ Trn.A4,getElem!_pos _ j e];simp
def akI(w:World)(o:Obj)(dk:Array UInt8)(k:Nat):∃os,(putRow (λ(b:UInt8)=>Value.int .u8 (b.toNat:Int)) (w.alloc o) w.heap.size 0 dk).drewN k=Go.Sort.grow (w.drewN k) os:=by rw[alloc_eq_grow];let⟨g,_,e⟩:=putRow_grow_new (λ(b:UInt8)=>Value.int .u8 (b.toNat:Int)) w #[o] w.heap.size 0 dk (Nat.le_refl _);exact⟨g,by rw[e];rfl⟩
set_option maxHeartbeats 6400000 in
set_option maxRecDepth 100000 in
def agZ(u:Nat)(g:u<18446744073709551616)(w:World)
  (v:Lib.TabIs prog w "internal/strconv.uint64pow10" .u64 Lib.pow10Tab):Calls prog 304 #[.int .u64 u,.int .i64 10] w λe w'=>e= .returned (.string ⟨(Lib.decDigits u).toArray⟩)/\∃k os,w'=Go.Sort.grow (w.drewN k) os:=by
 have L:=y7;have mixed:=L.mixed;have t2:prog.underlying 3=some (.int .i64):=L.t3;have i:prog.underlying 376=some (.array 24 5):=L.t171;have I:∀w:World,(isAgg 376).run prog w= .ok true w:=L.a171;have J:∀w:World,(Go.sizeOf 376).run prog w= .ok 24 w:=L.z171;have o:=L.v171;have o:∀w:World,(zeroValue 376).run prog w= .ok (.agg #[.int .u8 0,.int .u8 0,.int .u8 0,.int .u8 0,.int .u8 0,.int .u8 0,.int .u8 0,.int .u8 0,.int .u8 0,.int .u8 0,.int .u8 0,.int .u8 0,.int .u8 0,.int .u8 0,.int .u8 0,.int .u8 0,.int .u8 0,.int .u8 0,.int .u8 0,.int .u8 0,.int .u8 0,.int .u8 0,.int .u8 0,.int .u8 0]) w:=o;have t9:=L.t9;have M:prog.underlying 318=some (.slice 5):=L.t37;have O:∀args w,(callFunc 337 args).run prog w= .ok (.enter 337 args) w:=enters_of L.f283 Trn.A6 rfl;have Q:∀args w,(callFunc 338 args).run prog w= .ok (.enter 338 args) w:=enters_of L.f284 Trn.A6 rfl;have S:∀args w,(callFunc 339 args).run prog w= .ok (.enter 339 args) w:=enters_of L.f285 Trn.A6 rfl;by_cases T:u<100
 .go_enter func304,ntmps304
  go_wp2_with (go_at_fn (337);refine(internal_strconv_small u T _).mono ?_;rintro e w' ⟨rfl,rfl⟩)
  go_ret
  exact⟨rfl,0,#[],by simp[World.drewN_zero]⟩
 .have hu1:1<=u:=Trn.A4;have C:Lib.nDigits u<=20:=by have:=Lib.numDigits_eq u hu1 g;split at this<;>omega
  have U:Lib.nDigits u<=23:=Trn.A4;have B:prog.arrayLen 376=24:=by simp[Program.arrayLen,i]
  have V:∀W,(Instr.sliceAt 376 (.pointer<|some ⟨w.heap.size,0,none⟩) none (some<| .int .i64 (Lib.nDigits u:Int)) none).run prog W= .ok (.slice (some ⟨w.heap.size,0,none⟩) (Lib.nDigits u) 24) W:=λW=>by
   rw[run_sliceAt_array_h W 376 ⟨w.heap.size,0,none⟩ (by simp[Program.arrayLen,Program.elem,i]) .i64 (Lib.nDigits u:Int) Trn.A4 (by rw[B];omega)]
   go_simp
  have t:=afj w 376 (Lib.nDigits u) Trn.A4;have p:=internal_strconv_formatBase10 w.heap.size 0 24 u (Array.replicate (Lib.nDigits u) 0) (w.alloc<| .cells Lib.zeros24 376) t (by rw[Array.size_replicate];exact Lib.lt_pow_nDigits u) g (by rw[Array.size_replicate];omega);rw[Array.size_replicate] at p;have F:=Lib.hid t;clear t B
  go_enter func304,ntmps304
  go_wp2_with (first
   |(go_at_fn (338);refine(Any.internal_strconv_numDigits {L with} u hu1 g _<|Lib.tabIs_alloc v _).mono ?_;rintro e w' ⟨rfl,rfl⟩))
  go_at_fn (339)
  refine p.mono ?_;rintro e w' ⟨rfl,k,v',dk,rfl,hF⟩;have Z:(convert 318 9<| .slice (some ⟨w.heap.size,0,none⟩) (Lib.nDigits u) 24).run prog ((putRow (λ(b:UInt8)=>Value.int .u8 (b.toNat:Int)) (w.alloc<| .cells Lib.zeros24 376) w.heap.size 0 dk).drewN k)= .ok (.string ⟨(Lib.decDigits u).toArray⟩) ((putRow (λ(b:UInt8)=>Value.int .u8 (b.toNat:Int)) (w.alloc<| .cells Lib.zeros24 376) w.heap.size 0 dk).drewN k):=by
   have h:=run_convert_bytes_back (P:=prog) ((putRow (λ(b:UInt8)=>Value.int .u8 (b.toNat:Int)) (w.alloc<| .cells Lib.zeros24 376) w.heap.size 0 dk).drewN k) 318 9 5 ⟨w.heap.size,0,none⟩ 24 (Lib.decDigits u) L.t37 L.t5 L.t9 (λj G=>by rw[Lib.row_is_numeral hF j G,Lib.add_plain,World.cell?_drewN];exact cell?_putRow (λ(b:UInt8)=>Value.int .u8 (b.toNat:Int)) _ w.heap.size 0 _ dk F.out (by rw[hF.size,Array.size_replicate]) j (by rw[hF.size];rw[Lib.decDigits_length] at G;exact G))
   rw[Lib.decDigits_length] at h;exact h
  go_wp2
  go_ret
  let⟨os,eo⟩:=akI w (.cells Lib.zeros24 376) dk k;exact⟨rfl,k,os,eo⟩
set_option maxHeartbeats 6400000 in
set_option maxRecDepth 100000 in
def aek(u:Nat)(g:u<18446744073709551616)(w:World)
  (i:Lib.TabIs prog w "internal/strconv.uint64pow10" .u64 Lib.pow10Tab):Calls prog 264 #[.int .u64 u,.int .i64 10] w λe w'=>e= .returned (.string ⟨(Lib.decDigits u).toArray⟩)/\∃k os,w'=Go.Sort.grow (w.drewN k) os:=by
 have L:=y7;have mixed:=L.mixed;have o:∀args w,(callFunc 304 args).run prog w= .ok (.enter 304 args) w:=enters_of func304 Trn.A6 rfl;have h:=agZ u g w i
 go_enter func264,ntmps264
 go_wp2_with (go_at_fn (304);refine h.mono ?_;rintro e w' ⟨rfl,k,os,rfl⟩)
 go_ret
 exact⟨rfl,k,os,rfl⟩
def vS(w:World):∀k,(w.drewN k).os=w.os/\(w.drewN k).tape=w.tape/\(w.drewN k).output=w.output/\(w.drewN k).heap=w.heap
 |0=>⟨rfl,rfl,rfl,rfl⟩|k+1=>vS w.drew k
def vZ{w:World}{k:Nat}{os:Array Obj}:Below w.heap.size w (Go.Sort.grow (w.drewN k) os):=by
 let⟨g,h,o,e⟩:=vS w k;refine⟨g,h,o,?_,λi hi=>?_⟩
 .show w.heap.size<=((w.drewN k).heap++os).size;rw[e,Array.size_append];omega
 .show((w.drewN k).heap++os)[i]? =_;rw[e,Array.getElem?_append_left hi]
end
end Md
namespace Trn
section
variable{α ρ σ:Type}{r:ρ}
def T1(x:α)(K:α->A9 ρ):bd (some x) K=K x:=rfl
def abL{n:Nat}(h:n<=9223372036854775807):AG (n:Int)=some (n:Int):=by unfold AG Gb;rw[B1 (show(-9223372036854775808:Int)<=(n:Int) by omega),B1 (show(n:Int)<=9223372036854775807 by omega)];rfl
def aa3{σ ρ α:Type}(L:A3 α)(g:(σ->A9 ρ)->α->σ->A9 ρ)(K:σ->A9 ρ)(B:((σ×Int)->A9 ρ)->σ×Int->A9 ρ)(o:Nat)
  (p:∀k u (i:Nat) x,L[i]? =some x->B k (u,((i+o:Nat):Int))=g (λt=>k (t,((i+1+o:Nat):Int))) x u)
  (e:∀k u,B k (u,((L.length+o:Nat):Int))=K u):∀(F i:Nat) (u:σ),i<=L.length->L.length-i<F->lp F B (u,((i+o:Nat):Int))=HW (L.drop i) g u K
 |0,i,u,_,h=>by omega
 |F+1,i,u,hi,hF=>by
  show B (lp F B) (u,_)=_;rcases G8 i L.length with h|h
  .rw[SV h];show _=g (λs=>HW (L.drop<|i+1) g s K) L[i] u;rw[p _ _ i L[i]<|FT h]
   congr 1
   funext t
   exact aa3 L g K B o p e F (i+1) t A4 A4
  .have:i=L.length:=A4;subst this;rw[e,QJ];rfl
def zW(L:A3 α)(g:(σ->A9 ρ)->α->σ->A9 ρ)(K:σ->A9 ρ)(o:Nat){B:((σ×Int)->A9 ρ)->σ×Int->A9 ρ}{z:Int}{F:Nat}{u:σ}(t:z=(o:Int))(hF:L.length<F)(v:HW L g u K=some r)
 (p:∀k u (i:Nat) x,L[i]? =some x->B k (u,((i+o:Nat):Int))=g (λC=>k (C,((i+1+o:Nat):Int))) x u)
 (e:∀k u,B k (u,((L.length+o:Nat):Int))=K u):lp F B (u,z)=some r:=by
 have h:=aa3 L g K B o p e F 0 u (EU _) hF;rw[N9] at h;rw[t,h];exact v
theorem yE{b:Bool}{x r:α}(h:Dh b x=some r):b=true/\x=r:=by grind [Dh]
def Hq(l:A3 α)(i:Nat):AB l (i:Int)=l[i]? :=rfl
theorem adW{e:A3 V3}{L:A3 (V3)}(o:UA e=some L)(g:(σ->A9 ρ)->V3->σ->A9 ρ)(K:σ->A9 ρ)(u:σ)(p:HW L g u K=some r):ie e g K u=some r:=by
 obtain⟨h,rfl⟩:=yE o;have h:e.length<4000000000:=Cs h;unfold ie;refine zW e g K 0 rfl A4 p ?_ ?_
 .intro k u i x hx;have hi:i<e.length:=(EP.1 hx).1;dsimp only;rw[B1 (show((i+0:Nat):Int)<(e.length:Int) by omega)];rw[BF,Hq,SC,hx,T1];refine congrArg (λf=>g f x u)<|funext λt=>?_
  rw[show(((i:Nat):Int)+1)=((i+1+0:Nat):Int) from by omega,abL A4,T1]
 .grind
def nZ{l:A3 α}{i:Nat}{x:α×α}(h:(Q4 l)[i]? =some x):l[i]? =some x.1/\l[(i+1)%l.length]? =some x.2/\i<l.length:=by
 cases l with
 |nil=>simp[Q4] at h
 |cons a l=>
  unfold Q4 at h;rw[pR] at h;let⟨g,e⟩:=h;have hi:i<(a::l).length:=(EP.1 g).1;refine⟨g,?_,hi⟩;simp only[DP] at hi⊢;rcases G8 i l.length with o|o
  .rw[QK A4,List.getElem?_cons_succ];rw[K4 o] at e;exact e
  .have:i=l.length:=A4;subst this;rw[Nat.mod_self];rw[K5<|BJ _,pK] at e;exact e
theorem XA(l:A3 α):(Q4 l).length=l.length:=by(simp_all [Q4]<;>grind)
def ae8{e:A3 V3}{L:A3 ((V3×V3))}(o:Pq e=some L)(g:(σ->A9 ρ)->(V3×V3)->σ->A9 ρ)(K:σ->A9 ρ)(u:σ)(p:HW L g u K=some r):jU e g K u=some r:=by
 obtain⟨h,rfl⟩:=yE o;have h:e.length<1000000000:=Cs h;unfold jU;refine zW (Q4 e) g K 0 rfl (by rw[XA];omega) p ?_ ?_
 .intro k u i x hx;let⟨t,v,hi⟩:=nZ hx;dsimp only;rw[B1 (show((i+0:Nat):Int)<(e.length:Int) by omega)];have B:AG (((i:Nat):Int)+1)=some ((i+1+0:Nat):Int):=by rw[show(((i:Nat):Int)+1)=((i+1+0:Nat):Int) from by omega,abL A4]
  have C:Ex ((i+1+0:Nat):Int) (e.length:Int)=some (((i+1)%e.length:Nat):Int):=by unfold Ex;rw[Bb A4,Av,Int.tmod_eq_emod_of_nonneg A4];rfl
  rw[BF,Hq,SC,t,T1,B,T1,C,T1,Hq,v,T1];refine congrArg (λf=>g f (x.1,x.2) u)<|funext λF=>?_
  rw[T1]
 .intro k u;dsimp only;rw[Bb (by rw[XA];omega)];rfl
end
section
variable{P:Program}
variable{α:Type}{dep:Nat}{T:Ap}{n:Nat}{fs:A3 (Ap×Nat)}{Gd:α->A3 Ty}{eb:α->α->Bool}{f:α->Ty}{off:Nat}
structure HL(P:Bz)(T:Ap){α:Type}[DecidableEq α](f:α->Ty)(n:Nat)(agg:Bool)(dep:Nat):Prop where
 lay:Bj P T n agg=true
 sz:∀x,(f x).n=n
 ag:∀x,(f x).agg=agg
 eq:∀(d:Nat) (H:HV) (u v:AW) (x y:α),(f x).ok H u->(f y).ok H v->∀w:AS,(Op.equalIn (d+dep) T u v).run P w= .ok (decide<|x=y) w
 chk:∀(d:Nat) (e:Bool) (H:HV) (u:AW) (x:α),(f x).ok H u->∀w:AS,(Instr.checkKey e (d+dep) T u).run P w= .ok () w
 uniq:∀(H:HV) (u v:AW) (x:α),(f x).ok H u->(f x).ok H v->u=v
 leaf:∀(H:HV) (u:AW) (x:α),(f x).ok H u->∀c∈u.cells.toList,∀m,Instr.sameBits m c c=true
theorem toList_inj{a b:AA}:((⟨a.toArray⟩:ByteArray).toList==(⟨b.toArray⟩:ByteArray).toList)=decide (a=b):=by
 rw[ByteArray.toList_eq,ByteArray.toList_eq];show(a.toArray.toList==b.toArray.toList)=_;simp[List.toList_toArray];by_cases h:a=b
 .subst h;simp
 .grind
def aiH(t:Bj P T 1 false=true)(p:P.underlying T=some .string):HL P T TS 1 false 1 where
 lay:=t
 sz _:=rfl
 ag _:=rfl
 eq d H u v x y g i w:=by have g:u= .string ⟨x.toArray⟩:=g;have i:v= .string ⟨y.toArray⟩:=i;subst g;subst i;rw[run_equalIn_string w d T _ _ p,toList_inj]
 chk d e H u x g w:=by have g:u= .string ⟨x.toArray⟩:=g;subst g;simp[Instr.checkKey,E6 p]
 uniq H u v x h1 h2:=Eq.trans h1<|Eq.symm h2
 leaf H u x h c o m:=by
  have h:u= .string ⟨x.toArray⟩:=h;subst h;have o:c= .string ⟨x.toArray⟩:=by simpa[Value.cells] using o
  subst o;simp[Instr.sameBits];rw[beq_toListBytes];simp
def aoF{k:IntKind}(t:Bj P T 1 false=true)(p:P.underlying T=some (.int k)):HL P T (TI k) 1 false 1 where
 lay:=t
 sz _:=rfl
 ag _:=rfl
 eq d H u v x y g i w:=by
  have g:u= .int k x:=g;have i:v= .int k y:=i;subst g;subst i;rw[run_equalIn_int w d T k k _ _ p]
  rfl
 chk d e H u x g w:=by have g:u= .int k x:=g;subst g;simp[Instr.checkKey,E6 p]
 uniq H u v x h1 h2:=Eq.trans h1<|Eq.symm h2
 leaf H u x h c o m:=by
  have h:u= .int k x:=h;subst h;have o:c= .int k x:=by simpa[Value.cells] using o
  subst o;simp[Instr.sameBits]
def HL.qS[DecidableEq α]{agg:Bool}{g:Nat}(h:HL P T f n agg dep)(i:dep<=g):HL P T f n agg g where
 lay:=h.lay
 sz:=h.sz
 ag:=h.ag
 eq d H u v x y h1 h2 w:=by rw[show d+g=(d+(g-dep))+dep from by omega];exact h.eq _ H u v x y h1 h2 w
 chk d e H u x h1 w:=by rw[show d+g=(d+(g-dep))+dep from by omega];exact h.chk _ e H u x h1 w
 uniq:=h.uniq
 leaf:=h.leaf
inductive Rows(P:Bz){α:Type}(dep:Nat):A3 (Ap×Nat)->Nat->(α->A3 Ty)->(α->α->Bool)->Prop where
 |nil {off:Nat}:Rows P dep [] off (λ_=>[]) (λ_ _=>true)
 |cons {T:Ap} {off n:Nat} {agg:Bool} {β:Type} [DecidableEq β] {g:β->Ty} {acc:α->β} {fs:A3 (Ap×Nat)} {Gd:α->A3 Ty} {eb:α->α->Bool}:
   HL P T g n agg dep->Rows P dep fs (off+n) Gd eb->Rows P dep ((T,off)::fs) off (λx=>g (acc x)::Gd x) (λx y=>decide (acc x=acc y)&&eb x y)
def eqL(d:Nat)(xs ys:B9 AW):A3 (Ap×Nat)->Sem Bool
 |[]=>pure true
 |(T,o)::fs=>do
  let a<-part T xs o
  let b<-part T ys o
  let r<-Op.equalIn d T a b
  if(!r)=true then pure false else eqL d xs ys fs
def Nc(e:Bool)(d:Nat)(xs:B9 AW):A3 (Ap×Nat)->Sem Unit
 |[]=>pure ()
 |(T,o)::fs=>do
  let a<-part T xs o
  Instr.checkKey e d T a
  Nc e d xs fs
def mZ{agg:Bool}{τ:Ty}{l:A3 Ty}{H:HV}{cs:B9 AW}(u:Bj P T n agg=true)(o:τ.n=n)(B:τ.agg=agg)(h:Cx H (τ::l) (cs.toList.drop off))(I:off<=cs.size):∃v,(∀w,(part T cs off).run P w= .ok v w)/\τ.ok H v/\Cx H l (cs.toList.drop<|off+n)/\off+n<=cs.size:=by
 have g:=KT h;rw[Hj,En] at g;have C:C7 (τ::l)=τ.n+C7 l:=rfl;rw[C,o] at g;have i:off+n<=cs.size:=A4;let⟨v,rest,e,t,F⟩:=h;have p:=τ.shape t;have G:(cs.toList.drop off).take n=v.cells.toList:=by rw[e,<-o,<-p.size,<-En,db]
 refine⟨v,λw=>?_,t,?_,i⟩
 .rw[nW u i,G];have:=p.eq;rw[B] at this;rw[Array.toArray_toList];exact congrArg (λz=>Result.ok z w) this.symm
 .rw[<-Ee,e,<-o,<-p.size,<-En,Uc];exact F
theorem alX(h:Rows P dep fs off Gd eb):∀(d:Nat) (H:HV) (cs ds:B9 AW) (x y:α),Cx H (Gd x) (cs.toList.drop off)->Cx H (Gd y) (ds.toList.drop off)->off<=cs.size->off<=ds.size->∀w:AS,(eqL (d+dep) cs ds fs).run P w= .ok (eb x y) w:=by
 induction h with
 |nil=>intro d H cs ds x y _ _ _ _ w;rfl
 |cons e F ih=>
  intro d H cs ds x y g i o p w;let⟨u,t,k1,r1,s1⟩:=mZ e.lay (e.sz _) (e.ag _) g o;let⟨v,B,C,r2,s2⟩:=mZ e.lay (e.sz _) (e.ag _) i p;unfold eqL;simp only[DS,t,B,e.eq d H u v _ _ k1 C,DH];split
  .rename_i hb;rw[F6] at hb;rw[hb];rfl
  .grind
def ajG(h:Rows P dep fs off Gd eb):∀(d:Nat) (e:Bool) (H:HV) (cs:B9 AW) (x:α),Cx H (Gd x) (cs.toList.drop off)->off<=cs.size->∀w:AS,(Nc e (d+dep) cs fs).run P w= .ok () w:=by
 induction h with
 |nil=>intro d e H cs x _ _ w;rfl
 |cons g t ih=>intro d e H cs x i o w;let⟨u,p,k1,r1,s1⟩:=mZ g.lay (g.sz _) (g.ag _) i o;unfold Nc;simp[DS,p,g.chk d e H u _ k1,DH];exact ih d e H cs x r1 s1 w
def ahq(h:Rows P dep fs off Gd eb):∀(H:HV) (cs ds:A3 AW) (x:α),Cx H (Gd x) cs->Cx H (Gd x) ds->cs=ds:=by
 induction h with
 |nil=>intro H cs ds x e g;exact Eq.trans e<|Eq.symm g
 |cons i F ih=>rintro H cs ds x ⟨u,r1,o,k1,p⟩ ⟨v,r2,t,B,C⟩;rw[o,t,i.uniq H u v _ k1 B,ih H r1 r2 x p C]
theorem ahr(h:Rows P dep fs off Gd eb):∀(H:HV) (cs:A3 AW) (x:α),Cx H (Gd x) cs->∀c∈cs,∀m,Instr.sameBits m c c=true:=by
 induction h with
 |nil=>intro H cs x g c e;rw[show cs=[] from g] at e;cases e
 |cons i p ih=>
  rintro H cs x ⟨u,r1,o,k1,t⟩ c e m;rw[o] at e;rcases Bi.1 e with e|e
  .exact i.leaf H u _ k1 c e m
  .grind
def wW(d:Nat)(e:Ap)(c:Nat)(xs ys:B9 AW):∀g:A3 Nat,Op.eqItems d e c xs ys g=eqL d xs ys (g.map λi=>(e,i*c))
 |[]=>rfl
 |i::g=>by unfold Op.eqItems;rw[JT];unfold eqL;simp[wW d e c xs ys g]
def YZ(fs:A3 Field):Bool:=fs.all λf=>decide<|f.name≠ "_"
def vO(d:Nat)(xs ys:B9 AW):∀fs:A3 Field,YZ fs=true->Op.eqFields d xs ys fs=eqL d xs ys (fs.map λf=>(f.type,f.offset))
 |[],_=>rfl
 |f::fs,h=>by unfold YZ at h;rw[M3,Bq,G0] at h;unfold Op.eqFields;rw[if_pos h.1,JT];unfold eqL;simp[vO d xs ys fs h.2]
def ago(e:Bool)(d:Nat)(t:Ap)(xs:B9 AW){w:AS}(h:P.underlying t=some (.struct<|P.fieldsOf t))(g:YZ (P.fieldsOf t).toList=true):(Instr.checkKey e (d+1) t<| .agg xs).run P w=(Nc e d xs<|(P.fieldsOf t).toList.map λf=>(f.type,f.offset)).run P w:=by
 simp only[Instr.checkKey,DS,Ic h,DH];rw[<-Array.forIn_toList]
 generalize (P.fieldsOf t).toList=fs at g
 clear h
 induction fs generalizing w with
 |nil=>simp[Nc]
 |cons f fs ih=>
  unfold YZ at g;rw[M3,Bq,G0] at g;simp only[List.forIn_cons,JT,Nc,DS,Sem.run_ite,if_pos g.1]
  generalize (part f.type xs f.offset).run P w=r1
  cases r1 with
  |ok a i=>
   simp only[DH]
   generalize (Instr.checkKey e d f.type a).run P i=r2
   cases r2 with
   |ok b o=>simp only[DH,I2];exact ih g.2
   |halt x o=>simp[Result.andThen]
  |halt x i=>simp[Result.andThen]
def ail(g:Bool)(d:Nat){t e:Ap}{c:Nat}(xs:B9 AW){w:AS}(p:P.underlying t=some (.array n e))(hi:∀w,(Go.sizeOf e).run P w= .ok c w):(Instr.checkKey g (d+1) t<| .agg xs).run P w=(Nc g d xs<|(List.range n).map λi=>(e,i*c)).run P w:=by
 simp only[Instr.checkKey,DS,Ic p,DH];simp only[Std.Legacy.Range.forIn_eq_forIn_range',Std.Legacy.Range.size,Nat.sub_zero,Nat.add_one_sub_one,Nat.div_one,List.range_eq_range']
 generalize List.range' 0 n=h
 induction h generalizing w with
 |nil=>simp[Nc]
 |cons j h ih=>
  simp[List.forIn_cons,JT,Nc,DS,hi,DH]
  generalize (part e xs<|j*c).run P w=r1
  cases r1 with
  |ok a o=>
   simp[DH]
   generalize (Instr.checkKey g d e a).run P o=r2
   cases r2 with
   |ok b u=>simp[DH,I2];exact ih
   |halt x u=>simp[Result.andThen]
  |halt x o=>simp[Result.andThen]
def aaA[DecidableEq α](o:Bj P T n true=true)(g:∀x,f x=Cl (Gd x))(p:∀x,C7 (Gd x)=n)
 (h:Rows P dep fs 0 Gd eb)(t:∀x y,eb x y=decide (x=y))
 (B:∀(d:Nat) (xs ys:B9 AW) (w:AS),(Op.equalIn (d+1) T (.agg xs)<| .agg ys).run P w=(eqL d xs ys fs).run P w)
 (C:∀(e:Bool) (d:Nat) (xs:B9 AW) (w:AS),(Instr.checkKey e (d+1) T<| .agg xs).run P w=(Nc e d xs fs).run P w):HL P T f n true (dep+1) where
 lay:=o
 sz x:=by rw[g];exact p x
 ag x:=by rw[g];rfl
 eq d H u v x y hu hv w:=by rw[g] at hu hv;obtain⟨cs,rfl,k1⟩:=hu;obtain⟨ds,rfl,i⟩:=hv;rw[<-Iw,B,alX h d H cs ds x y k1 i (EU _)<|EU _,t]
 chk d e H u x hu w:=by rw[g] at hu;obtain⟨cs,rfl,k1⟩:=hu;rw[<-Iw,C,ajG h d e H cs x k1<|EU _]
 uniq H u v x hu hv:=by
  rw[g] at hu hv;obtain⟨cs,rfl,k1⟩:=hu;obtain⟨ds,rfl,i⟩:=hv
  congr 1
  exact Array.ext'<|ahq h H _ _ x k1 i
 leaf H u x hu c hc m:=by rw[g] at hu;obtain⟨cs,rfl,k1⟩:=hu;exact ahr h H _ x k1 c hc m
def nC[DecidableEq α](o:Bj P T n true=true)(p:∀x,f x=Cl (Gd x))(t:∀x,C7 (Gd x)=n)
 (u:Rows P dep fs 0 Gd eb)(v:∀x y,eb x y=decide (x=y))
 (i:P.underlying T=some (.struct<|P.fieldsOf T))(B:P.stoodInHeld T=false)(g:YZ (P.fieldsOf T).toList=true)(h:(P.fieldsOf T).toList.map (λf=>(f.type,f.offset))=fs):HL P T f n true (dep+1):=aaA o p t u v (λd xs ys w=>by rw[run_equalIn_struct w d T xs ys i B,vO d xs ys _ g,h]) (λe d xs w=>by rw[ago e d T xs i g,h])
def yB{E:Ap}{k c:Nat}{i:TypeInfo}[DecidableEq α](p:Bj P T n true=true)(t:∀x,f x=Cl (Gd x))(u:∀x,C7 (Gd x)=n)
 (v:Rows P dep fs 0 Gd eb)(B:∀x y,eb x y=decide (x=y))
 (h:P.underlying T=some (.array k E))(hi:P.info? E=some i)(o:P.cellsOf E=c)(g:(List.range k).map (λi=>(E,i*c))=fs):HL P T f n true (dep+1):=aaA p t u v B (λd xs ys w=>by rw[run_equalIn_array w d xs ys h hi,wW,o,g]) (λe d xs w=>by rw[ail e d xs h (c:=c) (λw=>by rw[run_sizeOf w hi,<-o]),g])
def HL.key[DecidableEq α](h:HL P T f n true dep)(M:dep<=10000)(F:∃g,P.underlying T=some g/\∀u v,Instr.sameNow g u v=none):QT P T f where
 eq H u v x y h1 h2 w:=by have:=h.eq (10000-dep) H u v x y h1 h2 w;rw[show 10000-dep+dep=10000 from by omega] at this;exact this
 check H u x h1 e w:=by have:=h.chk (10000-dep) e H u x h1 w;rw[show 10000-dep+dep=10000 from by omega] at this;exact this
 kind:=F
 bits H u v x h1 h2:=by
  have:=h.uniq H u v x h1 h2;subst this;have G:=(f x).shape h1;have o:=G.eq;rw[h.ag] at o;have t:=h.leaf H u x h1;rw[o] at t⊢;show Instr.sameBits (9999+1) (.agg u.cells) (.agg u.cells)=true;simp only[Instr.sameBits,beq_self_eq_true,I3];rw[DC];intro p I;have:p.1=p.2/\p.1∈u.cells.toList:=by let⟨i,hi⟩:=SQ.1 I;rw[pR] at hi;let⟨B,C⟩:=hi;rw[B] at C;exact⟨E2 C,HC B⟩
  let⟨J,L⟩:=this;rw[<-J];exact t p.1 L _
def HL.eqs[DecidableEq α](h:HL P T f n true dep)(t:dep<=10000)(i:P.eqGuardType P.depth T=false):St P T f where
 run H u v x y h1 h2 w:=by have:=h.eq (10000-dep) H u v x y h1 h2 w;rw[show 10000-dep+dep=10000 from by omega] at this;exact this
 guard H u v x y h1 h2 o p q w:=by have e:=((f x).shape h1).eq;have g:=((f y).shape h2).eq;rw[h.ag] at e g;rw[e,g];exact run_eqGuard_agg w o T p q _ _ i
 agg:=h.ag
end
def Yy:HL prog 26 TS 1 false 1:=aiH A6 A6
def kt3:HL prog 3 (TI .i64) 1 false 1:=aoF A6 A6
def rD:HL prog 40 K1 3 true 2:=
 yB (k:=3) (E:=3) (c:=1) (fs:=[(3,0),(3,1),(3,2)]) A6 (λ_=>rfl) (λ_=>rfl)
  (Rows.cons (acc:=λx:Int×Int×Int=>x.1) kt3<|Rows.cons (acc:=λx:Int×Int×Int=>x.2.1) kt3<|Rows.cons (acc:=λx:Int×Int×Int=>x.2.2) kt3 Rows.nil)
  (λx y=>by let⟨a,b,c⟩:=x;let⟨e,g,h⟩:=y;simp[OK,Y4]) A6 (i:=(prog.info? 3).get A6) A6 A6 rfl
def apZ:HL prog 165 Kx 4 true 3:=
 nC (fs:=[(40,0),(26,3)]) A6 (λ_=>rfl) (λ_=>rfl)
  (Rows.cons (acc:=λx:(Int×Int×Int)×AA=>x.1) rD<|Rows.cons (acc:=λx:(Int×Int×Int)×AA=>x.2) (Yy.qS A4) Rows.nil)
  (λx y=>by let⟨a,b⟩:=x;let⟨e,g⟩:=y;simp[OK,Y4]) A6 A6 A6 A6
def abA:HL prog 31 BQ 3 true 2:=
 yB (k:=3) (E:=26) (c:=1) (fs:=[(26,0),(26,1),(26,2)]) A6 (λ_=>rfl) (λ_=>rfl)
  (Rows.cons (acc:=λx:AA×AA×AA=>x.1) Yy<|Rows.cons (acc:=λx:AA×AA×AA=>x.2.1) Yy<|Rows.cons (acc:=λx:AA×AA×AA=>x.2.2) Yy Rows.nil)
  (λx y=>by let⟨a,b,c⟩:=x;let⟨e,g,h⟩:=y;simp[OK,Y4]) A6 (i:=(prog.info? 26).get A6) A6 A6 rfl
def ab9:HL prog 42 Ai 4 true 3:=
 nC (fs:=[(40,0),(26,3)]) A6 (λ_=>rfl) (λ_=>rfl)
  (Rows.cons (acc:=λx:(Int×Int×Int)×AA=>x.1) rD<|Rows.cons (acc:=λx:(Int×Int×Int)×AA=>x.2) (Yy.qS A4) Rows.nil)
  (λx y=>by let⟨a,b⟩:=x;let⟨e,g⟩:=y;simp[OK,Y4]) A6 A6 A6 A6
def aqX:HL prog 76 Ip 7 true 4:=
 nC (fs:=[(42,0),(31,4)]) A6 (λ_=>rfl) (λ_=>rfl)
  (Rows.cons (acc:=λx:HfZ×Ba=>x.1) ab9<|Rows.cons (acc:=λx:HfZ×Ba=>x.2) (abA.qS A4) Rows.nil)
  (λx y=>by let⟨a,b⟩:=x;let⟨e,g⟩:=y;simp[OK,Y4]) A6 A6 A6 A6
def aak:QT prog 165 Kx:=apZ.key A4 ⟨.struct<|prog.fieldsOf 165,A6,λ_ _=>rfl⟩
def qg:St prog 40 K1:=rD.eqs A4 A6
def Sz:St prog 31 BQ:=abA.eqs A4 A6
def aar:St prog 42 Ai:=ab9.eqs A4 A6
def aq7:St prog 76 Ip:=aqX.eqs A4 A6
def Acc{Y:Type}(b:Nat)(B:A3 Y->A9 (A3 Y)):Prop:=∀s r,B s=some r->∃ys,r=s++ys/\((s.length*b<=140737488355328->r.length*b<=140737488355328))/\∀s',(s'.length+ys.length)*b<=140737488355328->B s'=some (s'++ys)
section
variable{Y:Type}{b:Nat}
variable{X:Type}{B:X->A3 Y->A9 (A3 Y)}
def Acc.some:Acc (Y:=Y) b λs=>Option.some s:=λs r h=>by cases h;exact⟨[],AO,id,λs' _=>by simp⟩
def Acc.none:Acc (Y:=Y) b λ_=>Option.none:=λs r h=>by cases h
def Acc.bdc{e:A9 X}{K:X->A3 Y->A9 (A3 Y)}(h:∀x,Acc b<|K x):Acc b λs=>bd e λx=>K x s:=λs r g=>by let⟨x,i,g⟩:=LM g;let⟨ys,o,p,t⟩:=h x s r g;exact⟨ys,o,p,λs' u=>by rw[i];exact t s' u⟩
def Acc.gc{c:Bool}{K:A3 Y->A9 (A3 Y)}(h:Acc b K):Acc b λs=>gC c (K s):=λs r e=>by cases c with|false=>cases e|true=>exact h s r e
theorem Acc.cond{c:Bool}{A B:A3 Y->A9 (A3 Y)}(h:Acc b A)(k:Acc b B):Acc b λs=>cond c (A s) (B s):=by cases c<;>simp_all [Acc]
def Acc.aq8{c:A3 Y->Bool}{A B:A3 Y->A9 (A3 Y)}(g:∀s,c s=c [])(h:Acc b A)(k:Acc b B):Acc b λs=>_root_.cond (c s) (A s) (B s):=by
 have e:(λs=>_root_.cond (c s) (A s)<|B s)=λs=>_root_.cond (c []) (A s) (B s):=by funext s;rw[g s]
 rw[e];exact Acc.cond h k
def Acc.app{e:Y}{K:A3 Y->A9 (A3 Y)}(C:Nat.ble 1 b=true)(h:Acc b K):Acc b λs=>bd (BC b s [e]) λx=>K x:=λs r o=>by
 have C:=Cs C;let⟨x,i,o⟩:=LM o;have g:∀s:A3 Y,(s.length+1)*b<=140737488355328->BC b s [e]=Option.some (s++[e]):=λs p=>by
  unfold BC;have t:s.length+1<=9223372036854775807:=by have:=Nat.le_mul_of_pos_right (s.length+1) (show 0<b by omega);omega
  simp[p,t]
 have u:x=s++[e]/\(s.length+1)*b<=140737488355328:=by
  by_cases v:(s.length+1)*b<=140737488355328
  .rw[g s v] at i;exact⟨(E2 i).symm,v⟩
  .unfold BC at i;simp[v] at i
 obtain⟨rfl,G⟩:=u;let⟨ys,t,I,J⟩:=h _ r o;refine⟨e::ys,by rw[t];simp,λ_=>I (by simpa using G),λs' p=>?_⟩;have F:(s'.length+1+ys.length)*b<=140737488355328:=by
  have:s'.length+(e::ys).length=s'.length+1+ys.length:=by simp;omega
  rwa [this] at p
 show bd (BC b s' [e]) (λx=>K x)=_;rw[g s'<|CA (JA b A4) F];show K (s'++[e])=_;rw[J (s'++[e]) (by simpa using F)];simp
def yi{X:Type}{B:X->A3 Y->A9 (A3 Y)}(i:∀x,Acc b<|B x):∀{l:A3 X} {s r:A3 Y},NV B l s=Option.some r->s.length*b<=140737488355328->∃e:A3 (A3 Y),e.length=l.length/\r=s++e.flatten/\r.length*b<=140737488355328/\
  ∀p∈l.zip e,∀s',(s'.length+p.2.length)*b<=140737488355328->B p.1 s'=Option.some (s'++p.2)
 |[],s,r,h,hs=>by cases h;exact⟨[],rfl,AO,hs,AO⟩
 |x::l,s,r,h,hs=>by
  let⟨s1,o,h⟩:=LM h;let⟨ys,t,u,v⟩:=i x s s1 o;let⟨e,k1,C,k3,F⟩:=yi i h<|u hs
  refine⟨ys::e,by simp[k1],by rw[C,t];simp,k3,?_⟩;intro p g;rw[List.zip_cons_cons,Ak] at g;rcases g with rfl|g
  .exact v
  .exact F p g
def yH{X:Type}{B:X->A3 Y->A9 (A3 Y)}:∀{q:A3 (X×A3 Y)} {s:A3 Y},(∀p∈q,∀s',(s'.length+p.2.length)*b<=140737488355328->B p.1 s'=Option.some (s'++p.2))->(s++(q.map (·.2)).flatten).length*b<=140737488355328->NV B (q.map (·.1)) s=Option.some (s++(q.map (·.2)).flatten)
 |[],s,_,_=>by simp[NV]
 |p::q,s,h,hl=>by
  have e:(s.length+p.2.length+((q.map (·.2)).flatten).length)*b<=140737488355328:=by simpa[Iw] using hl
  show bd (B p.1 s) _=_;rw[h p AO s<|CA (JA b A4) e];show NV B (q.map (·.1)) (s++p.2)=_;rw[yH (λi g=>h i (by simp[g])) (by simpa[Iw] using e)];simp
def ajW{Z:Type}:∀{l g:A3 X} {Zs:A3 Z},g.Perm l->Zs.length=l.length->∃q:A3 (X×Z),q.Perm (l.zip Zs)/\q.map (·.1)=g:=by
 intro l g Zs p
 induction p generalizing Zs with
 |nil=>intro h;exact⟨[],AO,rfl⟩
 |cons x p ih=>
  intro h;cases Zs with
  |nil=>simp at h
  |cons z Zs=>obtain⟨q,t,u⟩:=ih (by simpa using h);exact⟨(x,z)::q,by simpa using t,by simp[u]⟩
 |swap x y l=>
  intro h
  match Zs,h with
  |z1::z2::Zs,h=>
   refine⟨(y,z2)::(x,z1)::l.zip Zs,by simpa using List.Perm.swap _ _ _,?_⟩;have:Zs.length=l.length:=by simpa using h
   simp[List.map_fst_zip,this]
 |trans t u i o=>
  intro h;obtain⟨e,C,v⟩:=o h;obtain⟨q1,F,b2⟩:=i (Zs:=e.map (·.2)) (by rw[BL,<-v,BL]);refine⟨q1,F.trans ?_,b2⟩;have:(List.zip (e.map (·.1))<|e.map (·.2))=e:=by rw[List.zip_map'];simp
  rw[<-v,this];exact C
def akv(t:∀x,Acc b<|B x){l g:A3 X}{r:A3 Y}(h:NV B l []=Option.some r)(e:g.Perm l):∃i,NV B g []=Option.some i/\i.Perm r:=by
 let⟨J,u,v,C,F⟩:=yi t h AO;let⟨q,q1,G⟩:=ajW e u;have o:((q.map (·.2)).flatten).Perm r:=by rw[v,Fy];refine List.Perm.flatten ?_;have:=q1.map (·.2);rwa [List.map_snd_zip A4] at this
 refine⟨_,by rw[<-G];exact yH (b:=b) (λp e s' I=>F p (q1.mem_iff.1 e) s' I) (by rw[Fy,o.length_eq];exact C),?_⟩;simpa using o
end
section
variable{α:Type}[DecidableEq α]{c:α×α->Option Int}
def vN{rk:α->Nat}:∀{s:A3 α} {x:α},(∀y∈s,∃v,c (x,y)=some v/\(v<0↔rk x<rk y))->s.Pairwise (λa b=>rk b<=rk a)->∃s',Lc (λa b=>c (a,b)) x s=some s'/\s'.Pairwise λa b=>rk b<=rk a
 |[],x,_,_=>⟨[x],rfl,AO⟩
 |y::s,x,h,hs=>by
  let⟨v,o,p⟩:=h y AO;let⟨t,C⟩:=Fh.1 hs;cases i:decide (v<0) with
  |true=>
   let⟨s',u,F⟩:=vN (λz g=>h z<|Bg _ g) C;refine⟨y::s',?_,Fh.2 ⟨λz g=>?_,F⟩⟩
   .show bd (c (x,y)) _=_;rw[o];show cond (decide<|v<0) _ _=_;rw[i];show bd (Lc (λa b=>c (a,b)) x s) _=_;rw[u];rfl
   .rcases Ak.1 ((bI u).mem_iff.1 g) with e|g
    .subst e;have:=p.1<|Aq i
     omega
    .exact t z g
  |false=>
   refine⟨x::y::s,?_,Fh.2 ⟨λz g=>?_,hs⟩⟩
   .show bd (c (x,y)) _=_;rw[o];show cond (decide<|v<0) _ _=_;rw[i];rfl
   .have hn: ¬rk x<rk y:=λh=>by have:=p.2 h;simp[this] at i
    rcases Ak.1 g with e|g
    .subst e;omega
    .have:=t z g;omega
def uE{rk:α->Nat}:∀{l s:A3 α},(∀x∈s++l,∀y∈s++l,∃v,c (x,y)=some v/\(v<0↔rk x<rk y))->s.Pairwise (λa b=>rk b<=rk a)->∃s',HW l (λnext x s=>bd (Lc (λa b=>c (a,b)) x s) next) s (λs=>some s.reverse)=some s'/\s'.Pairwise (λa b=>rk a<=rk b)
 |[],s,_,hs=>⟨s.reverse,rfl,List.pairwise_reverse.2 hs⟩
 |x::l,s,h,hs=>by
  let⟨s1,i,o⟩:=vN (c:=c) (rk:=rk) (s:=s) (x:=x) (λy p=>h x AO y (by simp[p])) hs;have t:=bI i;let⟨s',u,C⟩:=uE (l:=l) (s:=s1) (λa F b G=>by
   have mem:∀z,z∈s1++l->z∈s++x::l:=λz g=>by
    rcases Bi.1 g with g|g
    .rcases Ak.1 (t.mem_iff.1 g) with e|g
     .simp[e]
     .simp[g]
    .simp[g]
   exact h a (mem a F) b<|mem b G) o
  refine⟨s',?_,C⟩;show bd (Lc (λa b=>c (a,b)) x s) _=_;rw[i];exact u
def af6{l g r:A3 α}(h:Gk l c=some r)(o:g.Perm l):Gk g c=some r:=by
 let⟨C,u,F,G⟩:=Wm h;have mem:∀x∈g,x∈r:=λx i=>C.mem_iff.2<|o.mem_iff.1 i
 have key:∀x∈g,∀y∈g,∃v,c (x,y)=some v/\(v<0↔r.idxOf x<r.idxOf y):=λx i y p=>by
  let⟨v,t⟩:=F x (o.mem_iff.1 i) y<|o.mem_iff.1 p
  exact⟨v,t,bb u (mem x i) (mem y p) t⟩
 let⟨s',k1,I⟩:=uE (c:=c) (rk:=λx=>r.idxOf x) (l:=g) (s:=[]) (by simpa using key) List.Pairwise.nil;have k1:fz (λa b=>c (a,b)) g=some s':=k1;have e:s'=r:=w8 u ((ub k1).trans<|o.trans C.symm) I;subst e;unfold Gk;rw[k1];show Dh _ s'=_;have J:Nat.blt g.length 4611686018427387904=true:=by rw[o.length_eq];exact GR G
 have L:totB c g=true:=DC.2 λx i=>DC.2 λy p=>by let⟨v,t,_⟩:=key x i y p;rw[t];rfl
 rw[J,L,u];rfl
end
def ac3{u:_}{r:_}(v:Qz (λ(e:HfZ×V3) (g:(A3<|HfZ×Ba))=>bd (Vz e.2) λi=>cond (i) (some g) (bd (Mj e.2) λh=>cond (!decide (h.2=(0:Int))) (none) (bd (BC 88 g ([((e.1.1,e.1.2),h.1)]:A3 (HfZ×Ba))) λo=>some o))) u [] (λ(g:(A3<|HfZ×Ba))=>bd (Gk g<|λx=>ZF x.1 x.2) λp=>some (p,(0:Int)))=some r):∀π,π.Perm u->Qz (λ(e:HfZ×V3) (g:(A3<|HfZ×Ba))=>bd (Vz e.2) λi=>cond (i) (some g) (bd (Mj e.2) λh=>cond (!decide (h.2=(0:Int))) (none) (bd (BC 88 g ([((e.1.1,e.1.2),h.1)]:A3 (HfZ×Ba))) λo=>some o))) π [] (λ(g:(A3<|HfZ×Ba))=>bd (Gk g<|λx=>ZF x.1 x.2) λp=>some (p,(0:Int)))=some r:=by
 intro π hπ;let⟨s,C,t⟩:=LM v;let⟨s',F,G⟩:=akv (b:=88) (by
  intro x
  repeat' (first|exact Acc.some|exact Acc.none|refine Acc.app rfl ?_|refine Acc.aq8 (λ_=>rfl) ?_ ?_|(refine Acc.bdc<|λx=>?_)|fail)) C hπ
 unfold Qz;rw[F];let⟨y,I,t⟩:=LM t;show bd (Gk s' _) _=_;rw[af6 I G];exact t
end Trn
namespace Md
section
open Go.Shelf Go.Lib
def adg(m n:Nat)(h:n<=m):(⟨(List.replicate m (48:UInt8)).toArray⟩:ByteArray).extract 0 n=⟨(List.replicate n 48).toArray⟩:=by apply ByteArray.ext;rw[ByteArray.data_extract];apply Array.ext';simp[List.take_replicate,Nat.min_eq_left h]
set_option maxHeartbeats 4000000 in
set_option maxRecDepth 1000000 in
def aqN(n:Nat)(u:2<=n)(h:n<=64)(w:World):Calls prog 265 #[.string ⟨#[48]⟩,.int .i64 n] w λe w'=>e= .returned (.string ⟨(List.replicate n 48).toArray⟩)/\∃k,w'=w.drewN k:=by
 have i:∀args w,(callFunc 305 args).run prog w= .ok (.enter 305 args) w:=enters_of func305 Trn.A6 rfl;have o:∀args w,(callFunc 251 args).run prog w= .ok (.enter 251 args) w:=enters_of func251 Trn.A6 rfl;have g:=λw=>bits_Mul 1 n Trn.A4 Trn.A4 w
 have p:=λs w=>strings_HasPrefix s ⟨#[48]⟩ w
 go_enter func265,ntmps265
 go_wp2_with (first|(go_at_fn (305);refine(g _).mono ?_;rintro e w' ⟨rfl,rfl⟩)|(go_at_fn (251);refine(p _ _).mono ?_;rintro e w' ⟨rfl,rfl⟩))
 go_ret
 refine⟨?_,0,by simp[World.drewN_zero]⟩;have t:n%18446744073709551616=n:=Nat.mod_eq_of_lt Trn.A4;show Ending.returned (Value.string<|ByteArray.extract _ 0<|n%18446744073709551616)=_;rw[t]
 congr 2
 exact adg 64 n h
end
end Md
namespace Trn
section
open Go.Shelf
variable[D:DR]
variable{cur:B9 AW}
theorem agU{k n:Nat}{ps t xs:A3 AW}{w:AS}{blk:Nat}{E:Ap}[Inhabited<|Fin n](o:xs.length=n*k)(p:w.heap[blk]? =some (.cells cur E (0,0)))(u:cur.toList=ps++(xs++t)):Go.Sort.HoldsK (λi:Fin n=>chunk k xs i) k w blk ps.length (Array.ofFn λi:Fin n=>i):=by
 unfold Go.Sort.HoldsK Go.Sort.Holds;intro j g;rw[Go.Sort.size_flatK,Uf] at g;have v:cur[ps.length+j]? =xs[j]? :=by rw[<-NP,u,K5 A4,Nat.add_sub_cancel_left,K4 A4]
 have C:0<k:=(Jb k).elim (λe=>by subst e;simp at g) id;have hi:j/k<n:=Nat.div_lt_of_lt_mul (by rw[Jw];exact g);refine⟨?_,by simp[World.frozen?,p]⟩;rw[Go.Sort.get_flatK _ _ _ _ (by simpa using g)];rw[Y6 p,v];have F:(Array.ofFn λi:Fin n=>i)[j/k]! =⟨j/k,hi⟩:=by rw[Hz (Array.ofFn λi:Fin n=>i) (j/k) (by simpa using hi)];simp
 rw[F];have G:=wy o g;have h:j%k<(chunk k xs<|j/k).length:=by rw[Rl o hi];exact M1 _ C
 show xs[j]? =some (id (chunk k xs<|j/k)[j%k]!);rw[<-G,Hz (chunk k xs<|j/k) (j%k) h,FT h];rfl
theorem acB{α:Type}[Inhabited α]{enc:α->A3 AW}{k:Nat}{w:AS}{blk off m:Nat}{dk:B9 α}{os:B9 Obj}{E:Ap}{fr:Nat×Nat}(e:w.heap[blk]? =some (.cells cur E fr)):(sortWorldK enc k w blk off m dk os).heap[blk]? =some (.cells (Go.Sort.putCells id off (Go.Sort.flatK enc k dk) cur) E fr):=by
 unfold sortWorldK Go.Sort.grow Go.Sort.putRowK Go.Sort.putRow Go.Sort.mapBlock Go.Sort.ahead;simp only[eN,Array.size_modify,lt_of_heap e,if_pos,SR,e,NC]
 rfl
theorem aeV{ps xs o:A3 AW}{d:B9 AW}(h:cur.toList=ps++(xs++o))(p:d.size=xs.length):(Go.Sort.putCells id ps.length d cur).toList=ps++(d.toList++o):=by
 have t:cur.size=ps.length+(xs.length+o.length):=by rw[<-En,h];simp
 apply Ul;intro i;rw[NP];unfold Go.Sort.putCells;rw[Array.getElem?_mapIdx,<-NP,h];rcases G8 i ps.length with e|e
 .rw[K4 e,K4 e];cases ps[i]? with|none=>rfl|some v=>simp;omega
 .rw[K5 e,K5 e];rcases G8 (i-ps.length) xs.length with g|g
  .rw[K4 g,K4 (by simpa[p] using g),FT g,NC,if_pos ⟨e,A4⟩,NP,eT A4,Hz d _ A4];rfl
  .have e3:d.toList.length=xs.length:=by rw[<-p];exact En
   rw[K5 g,K5 (by rw[e3];exact g),e3];cases o[i-ps.length-xs.length]? with|none=>rfl|some v=>simp;omega
end
section
open Go.Shelf
variable[D:DR]
variable{P:Program}{ρ:Ren}{A:Type}[DecidableEq A]{τ:A->Ty}{k:Nat}{c:A×A->Option Int}
set_option maxHeartbeats 1000000 in
theorem afx(L:SlLaysF0.n6 P ρ)(aE:∀w,(isAgg<|ρ.t 24).run P w= .ok true w)(zE:∀w,(Go.sizeOf<|ρ.t 24).run P w= .ok k w)(hc:FQ P (ρ.f 6)=true)
  (hn:∀a,(τ a).n=k)(ha:∀a,(τ a).agg=true)(none:∀(p:A9 Addr) (cap:Nat) (fv:AW) (w:AS),Calls P (ρ.f 6) #[.slice p 0 cap,fv] w λe w'=>e= .returned (.tuple #[])/\w'=w)
  {l r:A3 A}(hm:Gk l c=some r){ps qs:A3 AW}:H7 P (ρ.f 6) [] (.EA (ρ.t 24) ps qs<|lT τ l) (.EA (ρ.t 24) ps qs<|lT τ r) [IL P (λx:A×A=>[τ x.1,τ x.2]) (λx:Int=>[(TI .i64) x]) c] []:=by
 let⟨h1,h2,h3,h4⟩:=Wm hm;have J:r.length=l.length:=h1.length_eq;refine⟨hc,λw H v pv qv sub gl hp hq hs=>?_⟩;have hp:=Xr hp;subst hp;obtain⟨fv,rfl,hfv⟩:=N2 hq;obtain⟨g,cap,iq,rfl,YL,hf⟩:=hfv;obtain⟨blk,o,cur,xs,rfl,h,lZ,Z,hB,O⟩:=hs;have Q:(lT τ l).length=l.length:=BL ..;have Sw:(lT τ r).length=l.length:=by rw[BL,J]
 rw[Q];have JF:∀b,Value.ownBlock (.slice (some ⟨blk,ps.length,.none⟩) l.length o)=some b->H b= .none:=λb S=>by cases S;exact hB
 by_cases U:l=[]
 .subst U;have hr:r=[]:=List.Perm.eq_nil h1;subst hr;refine(none _ o _ w).mono ?_;rintro e w' ⟨rfl,rfl⟩;exact⟨_,rfl,H,(Tr.refl _ _).JF sub JF,⟨blk,o,cur,xs,rfl,h,lZ,Z,hB,O⟩,λb S=> .inl S,#[],rfl,rfl⟩
 .have hpos:0<l.length:=SN.2 U
  haveI:Inhabited (Fin l.length):=⟨⟨0,hpos⟩⟩
  let⟨IE,Qs⟩:=Rg hn ha Z
  let cf:Fin l.length->Fin l.length->Int:=λi j=>(c (l[i],l[j])).getD 0
  have C:∀i j:Fin l.length,c (l[i],l[j])=some (cf i j):=λi j=>by
   let⟨v,hv⟩:=h3 _ (Ja i.2) _<|Ja j.2
   have hv:c (l[i],l[j])=some v:=hv;show c (l[i],l[j])=some ((c (l[i],l[j])).getD 0);rw[hv];rfl
  have Yv:=Dy.can (D:=DR.strict)<|hf _ _<|C ⟨0,hpos⟩ ⟨0,hpos⟩
  have V:=vV (P:=P) (off:=ps.length) hn ha Z sub gl hB YL hf cf C;have hd:(Array.ofFn λi:Fin l.length=>i).size=l.length:=Uf;have F:=AnyQ.slices_SortFunc L k aE zE (λi:Fin l.length=>chunk k xs i) (λi=>Rl IE i.2)
   (λi u hu=>Pv Z u<|SO<|OL hu) cf (xL hm C) g cap blk ps.length o (Array.ofFn λi:Fin l.length=>i) w
   (λargs w=>Ml Yv args w) (by rw[hd];exact V) (agU IE h lZ) (lt_of_heap h) (by rw[hd];exact h4)
  rw[hd] at F;refine F.mono ?_;rintro e w' ⟨rfl,G,m,os,oE,ajx,rfl⟩;let⟨hdz,hdr⟩:=w9 hm C oE ajx;have W:(Go.Sort.flatK (λi:Fin l.length=>chunk k xs i) k G).size=l.length*k:=by rw[Go.Sort.size_flatK,hdz]
  refine⟨_,rfl,H,Tr.JF (M:=λb=>Value.ownBlock (.slice (some ⟨blk,ps.length,.none⟩) l.length o)=some b) ⟨jR,rfl,rfl,rfl,?_,λi hi hne=>WE hi (λe=>hne (by rw[e];rfl))⟩ sub JF,⟨blk,o,_,(Go.Sort.flatK (λi:Fin l.length=>chunk k xs i) k G).toList,by rw[Sw],acB h,aeV lZ (by rw[W,IE]),?_,hB,O⟩,λb S=> .inl S,#[],rfl,rfl⟩
  .refine Fe.of ?_;show w.drawn<=(sortWorldK _ k w blk _ m G os).drawn;unfold sortWorldK Go.Sort.grow Go.Sort.putRowK Go.Sort.putRow Go.Sort.mapBlock Go.Sort.ahead;exact SI _ _
  .refine Zq (by rw[En,W,J]) λi hi=>?_
   have I:i<G.size:=A4;rw[mB (λi=>Rl IE i.2) I];rw[Hz G i I];have e:r[i]=l[G[i]]:=by
    have:r[i]? =(G.toList.map λi=>l[i])[i]? :=by rw[hdr]
    rw[FT hi,Fp,NP,eT I] at this;simpa using this
   rw[e];exact Qs _ G[i].2
end
section
variable[D:DR]
variable{l r:A3 V3}
theorem ahn{l r:A3 (HfZ×Ba)}{c:(HfZ×Ba)×(HfZ×Ba)->A9 Int}(e:Gk l c=some r):H7 prog 102 [] (.buf 76 7<|lT Ip l) (.buf 76 7<|lT Ip r) [(IL prog (λ(x:(HfZ×Ba)×(HfZ×Ba))=>[Ip x.1,Ip x.2])<|λ(x:Int)=>[(TI .i64) x]) c] []:=mP (ρ:=uS) yx (k:=7) isAgg76 sizeOf76 A6 (λ_=>rfl) (λ_=>rfl) (AnyF.slices_SortFunc_none yx) e
theorem ahm{c:V3×V3->A9 Int}(e:Gk l c=some r):H7 prog 218 [] (.buf 86 12<|lT B3 l) (.buf 86 12<|lT B3 r) [(IL prog (λ(x:V3×V3)=>[B3 x.1,B3 x.2])<|λ(x:Int)=>[(TI .i64) x]) c] []:=mP (ρ:=kg) cg (k:=12) isAgg86 sizeOf86 A6 (λ_=>rfl) (λ_=>rfl) (AnyF.slices_SortFunc_none cg) e
theorem ag7{c:V3×V3->A9 Int}(g:Gk l c=some r){ps e:A3 AW}:H7 prog 218 [] (.EA 86 ps e<|lT B3 l) (.EA 86 ps e<|lT B3 r) [(IL prog (λ(x:V3×V3)=>[B3 x.1,B3 x.2])<|λ(x:Int)=>[(TI .i64) x]) c] []:=afx (ρ:=kg) cg (k:=12) isAgg86 sizeOf86 A6 (λ_=>rfl) (λ_=>rfl) (AnyF.slices_SortFunc_none cg) g
theorem aeA{c:V3×V3->A9 Bool}(e:XF l c=some r):fN prog 234 86 12 (lT B3 l) [(IL prog (λ(x:V3×V3)=>[B3 x.1,B3 x.2])<|λ(x:Bool)=>[Az x]) c] (lT B3 r):=
 aen (k:=12) A6 (λ_=>rfl) (λ_=>rfl) Md.agk
  (Md.agj func234 mixed rfl underlying3 isAgg3 sizeOf3 zeroValue3 underlying4 isAgg4 sizeOf4 underlying129 isAgg129 sizeOf129 isAgg86 sizeOf86 _ zeroValue86 (by rfl) IK) e
theorem ahl{l r:BdZ}{c:HfZ×HfZ->A9 Int}(e:Gk l c=some r):H7 prog 259 [] (.buf 42 4<|lT Ai l) (.buf 42 4<|lT Ai r) [(IL prog (λ(x:HfZ×HfZ)=>[Ai x.1,Ai x.2])<|λ(x:Int)=>[(TI .i64) x]) c] []:=mP (ρ:=uR) yw (k:=4) isAgg42 sizeOf42 A6 (λ_=>rfl) (λ_=>rfl) (AnyF.slices_SortFunc_none yw) e
theorem ani{x r:A3 (A3<|PlZ×A3 V3)}{n:Int}(e:qK x n=some r):Dy prog 187 [(TN<|TL Bp) x,(TI .i64) n] (.fr 112 1<|lT (TL Bp) r):=aiS (ρ:=uf) amW (i0:=(prog.info? 112).get A6) (z:= .slice none 0 0) (sz:=1) A6 A6 A6 IK rfl (Cs A6) A6 e
def aaa{w:AS}{H:HV}(sub:∀r o,H r=some o->w.heap[r]? =some o)(gl:JD prog H):Lib.TabIs prog w "internal/strconv.uint64pow10" .u64 Lib.pow10Tab:=by
 obtain⟨g,h,T,i,e,p⟩:∃g,prog.globalNamed "internal/strconv.uint64pow10" =some g/\∃T,(prog.globals[g]?).map (·.type)=some T/\∃e,prog.underlying T=some (.array 20 e):=by refine⟨((prog.globalNamed "internal/strconv.uint64pow10").getD 0),A6,((prog.globals[((prog.globalNamed "internal/strconv.uint64pow10").getD 0)]?).map (·.type)).getD 0,A6,272,A6⟩
 have:=gl g T i;unfold Qb at this;rw[p] at this;let⟨E,fr,t⟩:=this;unfold Lib.TabIs World.var?;rw[h];show(match w.heap[g]? with|some (.cells cs _ _)=>some cs|_=>none)=_;rw[sub _ _ t];show some ah=_
 congr 1
def anh{x:Int}{r:AA}(g:Ya x=some r):AQ 262 [TI .i64 x] [TS r]:=by
 unfold Ya at g;cases i:Gb x
 .rw[i] at g;cases g
 .rw[i] at g;have g:some (Br x)=some r:=g;cases g;unfold Gb at i;let⟨o,p⟩:=DY i;have o:=Aq o;have p:=Aq p;refine Pl A6 λw H vs sub gl v=>?_
  obtain⟨u,rfl,t⟩:=N2 v;have t:u= .int .i64 x:=t;subst t;refine(strconv_Itoa x o p w<|aaa sub gl).mono ?_;rintro e w' ⟨rfl,k,os,rfl⟩;refine⟨_,rfl,⟨Md.vZ,Fe.of<|SI _ _⟩,?_⟩;show Value.string _=Value.string _
  congr 3
  unfold Br Lib.itoa;by_cases h:x<0
  .rw[if_pos h,B1 h,Uy];rfl
  .rw[if_neg h,Bb h,Uy,show x.natAbs=x.toNat from by omega];rfl
def anj{x y:Int}{r:AA}(C:fj x y=some r):AQ 264 [TI .u64 x,TI .i64 y] [TS r]:=by
 obtain⟨g,rfl⟩:=Fm C;let⟨g,h⟩:=DY g;let⟨i,t⟩:=DY g;have i:=Aq i;have t:=Aq t;have h:=Aq h;subst h;obtain⟨n,rfl⟩:=EI i;refine Pl A6 λw H vs sub gl F=>?_
 obtain⟨u,v,rfl,o,p⟩:=S3 F;have o:u= .int .u64 n:=o;have p:v= .int .i64 10:=p;subst o;subst p;refine(Md.aek n A4 w<|aaa sub gl).mono ?_;rintro e w' ⟨rfl,k,os,rfl⟩;refine⟨_,rfl,⟨Md.vZ,Fe.of<|SI _ _⟩,?_⟩;show Value.string _=Value.string _;rw[CL,Uy]
def ang{x:AA}{y:Int}{r:AA}(F:fi x y=some r):AQ 265 [TS x,TI .i64 y] [TS r]:=by
 obtain⟨g,rfl⟩:=Fm F;let⟨g,i⟩:=DY g;let⟨o,C⟩:=DY g;have o:=Aq o;have C:=Aq C;have i:=Aq i;subst i;obtain⟨n,rfl⟩:=EI o;refine Pl A6 λw H vs sub gl G=>?_
 obtain⟨u,v,rfl,p,t⟩:=S3 G;have p:u= .string ⟨#[48]⟩:=p;have t:v= .int .i64 n:=t;subst p;subst t;rw[CL];rcases(show n=0\/n=1\/2<=n by omega) with h|h|h
 .subst h;refine(strings_Repeat_zero ⟨#[48]⟩ w).mono ?_;rintro e w' ⟨rfl,rfl⟩;exact⟨_,rfl,Ea.refl _ _,rfl⟩
 .subst h;refine(strings_Repeat_one ⟨#[48]⟩ w).mono ?_;rintro e w' ⟨rfl,rfl⟩;exact⟨_,rfl,Ea.refl _ _,rfl⟩
 .refine(Md.aqN n h A4 w).mono ?_;rintro e w' ⟨rfl,k,rfl⟩;refine⟨_,rfl,⟨⟨rfl,rfl,rfl,BJ _,λ_ _=>rfl⟩,Fe.of<|SI _ _⟩,?_⟩;show Value.string _=Value.string _;rw[z7]
end
end Trn
