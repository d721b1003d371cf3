/-
  Part of the proof of SolidNormals.
-/
import Derived.Test.YtflhfjdapojoiaaGreatDoorHc
set_option maxRecDepth 100000
set_option maxHeartbeats 20000000
set_option linter.all false
open Go Go.RowKit Go.Proofs Go.Proofs.Tryz
namespace Trn
section
variable{t x:Rat}{α:Type}{y:Rat}
abbrev Q3:=Rat×Rat×Rat
abbrev H3:=Q3×Rat
def aP(v w:Q3):Rat:=v.1*w.1+v.2.1*w.2.1+v.2.2*w.2.2
def cg(v w:Q3):Q3:=(v.1-w.1,v.2.1-w.2.1,v.2.2-w.2.2)
def aG(v w:Q3):Q3:=(v.2.1*w.2.2-v.2.2*w.2.1,v.2.2*w.1-v.1*w.2.2,v.1*w.2.1-v.2.1*w.1)
def j4(v w:Q3):Q3:=(v.1+w.1,v.2.1+w.2.1,v.2.2+w.2.2)
def ik(v:Q3)(a:Rat):Q3:=(v.1*a,v.2.1*a,v.2.2*a)
def o3:Q3:=(0,0,0)
def val(h:H3)(p:Q3):Rat:=aP h.1 p-h.2
def Mem(L:att H3)(p:Q3):Prop:=∀h∈L,val h p<=0
def zQ(L:att H3):Prop:=∀d:Q3,d≠o3->∃h∈L,0<aP h.1 d
def rG(L:att H3)(p:Q3):Prop:=Mem L p/\∀d:Q3,(∀h∈L,val h p=0->aP h.1 d=0)->d=o3
theorem lW{v w:Q3}(h1:v.1=w.1)(h2:v.2.1=w.2.1)(h3:v.2.2=w.2.2):v=w:=by
 obtain⟨a,b,c⟩:=v;obtain⟨d,e,f⟩:=w;simp only at h1 h2 h3;rw[h1,h2,h3]
theorem wY(n p d:Q3):aP n (j4 p d)=aP n p+aP n d:=by unfold aP j4;grind
theorem Fc(n p d:Q3):aP n (cg p d)=aP n p-aP n d:=by unfold aP cg;grind
theorem je(n d:Q3)(a:Rat):aP n (ik d a)=a*aP n d:=by unfold aP ik;grind
theorem pG(n d:Q3):aP n d=aP d n:=by unfold aP;grind
theorem rN(n d:Q3)(a:Rat):aP (ik d a) n=a*aP d n:=by unfold aP ik;grind
theorem Qa(n:Q3):aP n o3=0:=by unfold aP o3;grind
theorem Dw(h:H3)(p d:Q3)(r:Rat):val h (j4 p<|ik d r)=val h p+r*aP h.1 d:=by
 unfold val;rw[wY,je];grind
theorem nZ(x:Rat):0<=x*x:=by
 rcases Lk (a:=0) (b:=x) with h|h
 ·exact ft h h
 ·have:=ft (a:= -x) (b:= -x) (by grind) (by grind);grind
theorem QY(h:x*x<=0):x=0:=by
 rcases lq.1 (Rat.le_antisymm h<|nZ x) with h|h<;>exact h
theorem P9{d:Q3}(h:aP d d<=0):d=o3:=by
 unfold aP at h;have h1:=nZ d.1;have h2:=nZ d.2.1;have h3:=nZ d.2.2;exact lW (QY (by grind)) (QY (by grind)) (QY (by grind))
theorem lD{d:Q3}(h:d≠o3):0<aP d d:=by
 by_cases h1:0<aP d d
 ·exact h1
 ·exact absurd (P9 (by grind)) h
theorem least{α:Type}(P:α->Prop)(f:α->Rat):∀L:att α,(∃h∈L,P h)->∃h∈L,P h/\∀k∈L,P k->f h<=f k
 |[],⟨h,m,_⟩=>by cases m
 |x::L,hx=>by
  by_cases hL:∃h∈L,P h
  ·obtain⟨h,m,ph,hm⟩:=least P f L hL;by_cases px:P x
   ·rcases Lk (a:=f x) (b:=f h) with c|c
    ·refine⟨x,gJ,px,fun k mk pk=>?_⟩;rcases aY.1 mk with e|mk
     ·rw[e];exact j6
     ·exact Cr c<|hm k mk pk
    ·refine⟨h,cW _ m,ph,fun k mk pk=>?_⟩;rcases aY.1 mk with e|mk
     ·rw[e];exact c
     ·exact hm k mk pk
   ·refine⟨h,cW _ m,ph,fun k mk pk=>?_⟩;rcases aY.1 mk with e|mk
    ·rw[e] at pk;exact absurd pk px
    ·exact hm k mk pk
  ·obtain⟨h,m,ph⟩:=hx;rcases aY.1 m with e|m
   ·subst e;refine⟨h,gJ,ph,fun k mk pk=>?_⟩;rcases aY.1 mk with e|mk
    ·rw[e];exact j6
    ·exact absurd ⟨k,mk,pk⟩ hL
   ·exact absurd ⟨h,m,ph⟩ hL
theorem filter_lt{α:Type}{p q:α->Bool}:∀{L:att α} {x:α},(∀y∈L,q y=true->p y=true)->x∈L->p x=true->q x=false->(L.filter q).length<(L.filter p).length
 |y::L,x,h,m,hp,hq=>by
  have hle:∀M:att α,(∀y∈M,q y=true->p y=true)->(M.filter q).length<=(M.filter p).length:=by
   intro M
   induction M with
   |nil=>intro _;exact bp _
   |cons z M ih=>
    intro hM;have:=ih fun y my=>hM y<|cW _ my
    have hz:=hM z gJ;rw[H6,H6];cases hqz:q z
    ·cases p z<;>simp<;>omega
    ·rw[hz hqz];simp;omega
  rw[H6,H6];rcases aY.1 m with e|m
  ·subst e;rw[hp,hq];have:=hle L fun y my=>h y<|cW _ my
   simp;omega
  ·have:=filter_lt (fun y my=>h y<|cW _ my) m hp hq;have hy:=h y gJ;cases hqz:q y
   ·cases p y<;>simp<;>omega
   ·rw[hy hqz];simp;omega
theorem afN{L:att H3}(hb:zQ L){p:Q3}(hp:Mem L p)(c:Q3){d:Q3}(hd:d≠o3)(hc:0<=aP c d)(ht:∀h∈L,val h p=0->aP h.1 d=0):
  ∃q,Mem L q/\aP c p<=aP c q/\(∀h∈L,val h p=0->val h q=0)/\∃h∈L,val h p≠0/\val h q=0:=by
 obtain⟨h,mh,ph,hm⟩:=least (fun h:H3=>0<aP h.1 d) (fun h=> -val h p/aP h.1 d) L<|hb d hd
 have hv:=hp h mh;have hr:0<= -val h p/aP h.1 d:=by
  rw[Cq];exact ft (by grind)<|jQ<|Cp.2 ph
 have key:∀k:H3,0<aP k.1 d-> -val k p/aP k.1 d*aP k.1 d= -val k p:=fun k hk=>wV (by grind)
 generalize hR: -val h p/aP h.1 d=r at*
 refine⟨j4 p<|ik d r,fun k mk=>?_,?_,fun k mk hk=>?_,h,mh,fun e=>?_,?_⟩
 ·rw[Dw];have hk:=hp k mk;by_cases g:0<aP k.1 d
  ·have h1:=hm k mk g;have h2:=key k g;have h3:=LS h1<|jQ g
   grind
  ·have:=ft hr (show 0<= -aP k.1 d by grind)
   grind
 ·rw[wY,je];have:=ft hr hc
  grind
 ·rw[Dw,ht k mk hk,hk];grind
 ·have:=ht h mh e
  grind
 ·rw[Dw];have:=key h ph;rw[hR] at this
  grind
theorem aiU{L:att H3}(hb:zQ L)(c:Q3):∀(n:Nat) (p:Q3),(L.filter fun h=> !decide (val h p=0)).length<=n->Mem L p->∃v,rG L v/\aP c p<=aP c v/\∀h∈L,val h p=0->val h v=0:=by
 intro n
 induction n with
 |zero=>
  intro p hn hp;refine⟨p,⟨hp,fun d hd=>?_⟩,j6,fun _ _ h=>h⟩;have h0:(L.filter fun h=> !decide (val h p=0))=[]:=pZ (by omega);by_cases hz:d=o3
  ·exact hz
  ·obtain⟨h,mh,hh⟩:=hb d hz;have:val h p=0:=by
    by_cases e:val h p=0
    ·exact e
    ·have:h∈(L.filter fun h=> !decide (val h p=0)):=pW.2 ⟨mh,by simp[e]⟩;rw[h0] at this;cases this
   have:=hd h mh this
   grind
 |succ n ih=>
  intro p hn hp;by_cases hv:rG L p
  ·exact⟨p,hv,j6,fun _ _ h=>h⟩
  ·have:∃d:Q3,(∀h∈L,val h p=0->aP h.1 d=0)/\d≠o3:=by
    refine eK fun hn=>hv ⟨hp,fun d hd=>?_⟩
    exact eK fun hz=>hn ⟨d,hd,hz⟩
   obtain⟨d,ht,hz⟩:=this;have go:∀d:Q3,(∀h∈L,val h p=0->aP h.1 d=0)->d≠o3->0<=aP c d->∃v,rG L v/\aP c p<=aP c v/\∀h∈L,val h p=0->val h v=0:=by
    intro d ht hz hc;obtain⟨q,q1,q2,q3,h,mh,q4,q5⟩:=afN hb hp c hz hc ht;have:=filter_lt (L:=L) (p:=fun h=> !decide (val h p=0)) (q:=fun h=> !decide (val h q=0)) (x:=h) (fun y my hy=>by
     simp at hy⊢;exact fun e=>hy<|q3 y my e) mh (by simp[q4]) (by simp[q5])
    obtain⟨v,v1,v2,v3⟩:=ih q (by omega) q1;exact⟨v,v1,Cr q2 v2,fun h m e=>v3 h m<|q3 h m e⟩
   rcases Lk (a:=0) (b:=aP c d) with hc|hc
   ·exact go d ht hz hc
   ·have hs:∀n:Q3,aP n (ik d<| -1)= -aP n d:=fun n=>by rw[je];grind
    refine go (ik d<| -1) (fun h m e=>by rw[hs,ht h m e];grind) (fun e=>hz ?_) (by rw[hs];grind);have e1:=congrArg Prod.fst e;have e2:=congrArg (fun x=>x.2.1) e;have e3:=congrArg (fun x=>x.2.2) e;simp only[ik,o3] at e1 e2 e3;exact lW (by simp only[o3];grind) (by simp only[o3];grind) (by simp only[o3];grind)
theorem B2{L:att H3}(hb:zQ L){p:Q3}(hp:Mem L p)(c:Q3):∃v,rG L v/\aP c p<=aP c v/\∀h∈L,val h p=0->val h v=0:=aiU hb c _ p (bp _) hp
def qy(n a b c:Q3):Rat:=aP n<|aG (cg b a)<|cg c a
def tE(a b:Q3)(t:Rat):Q3:=j4 a<|ik (cg b a) t
theorem Hs(n a b c:Q3):qy n a b c=qy n b c a:=by unfold qy aP aG cg;grind
theorem La(n a b:Q3):qy n a a b=0:=by unfold qy aP aG cg;grind
theorem K9(n a b:Q3):qy n a b a=0:=by unfold qy aP aG cg;grind
theorem wI(n a b:Q3):qy n b a a=0:=by unfold qy aP aG cg;grind
theorem Hq(n p q a b:Q3)(t:Rat):qy n p q (tE a b t)=(1-t)*qy n p q a+t*qy n p q b:=by
 unfold qy tE aP aG cg j4 ik;grind
theorem abI(n p r a b:Q3)(t:Rat):qy n p (tE a b t) r=(1-t)*qy n p a r+t*qy n p b r:=by
 unfold qy tE aP aG cg j4 ik;grind
theorem abJ(n q r a b:Q3)(t:Rat):qy n (tE a b t) q r=(1-t)*qy n a q r+t*qy n b q r:=by
 unfold qy tE aP aG cg j4 ik;grind
theorem gW(h:H3)(a b:Q3)(t:Rat):val h (tE a b t)=(1-t)*val h a+t*val h b:=by
 unfold val tE aP cg j4 ik;grind
theorem aeL(h0:0<=t)(h1:t<=1)(hx:0<=x)(hy:0<=y):0<=(1-t)*x+t*y:=by
 have a:=ft (show 0<=1-t by grind) hx;have b:=ft h0 hy
 grind
def Wk(n:Q3)(l:att Q3):Prop:=∀a b c,[a,b,c].Sublist l->0<=qy n a b c
def Kl(n:Q3)(l:att Q3):Prop:=∀a b c,[a,b,c].Sublist l->0<qy n a b c
theorem Wk.sub{n:Q3}{l m:att Q3}(h:Wk n l)(s:m.Sublist l):Wk n m:=fun a b c k=>h a b c<|k.trans s
theorem Kl.sub{n:Q3}{l m:att Q3}(h:Kl n l)(s:m.Sublist l):Kl n m:=fun a b c k=>h a b c<|k.trans s
theorem Kl.wk{n:Q3}{l:att Q3}(h:Kl n l):Wk n l:=fun a b c k=>jQ<|h a b c k
theorem SR{x:α}{l:att α}(h:x∈l):[x].Sublist l:=Ig.2 h
theorem aie{n:Q3}{A B:att Q3}{a b:Q3}(h0:0<=t)(h1:t<=1)(h:Wk n (A++a::b::B)):Wk n (A++a::tE a b t::b::B):=by
 intro p q r s;have e:A++a::tE a b t::b::B=(A++[a])++(tE a b t::b::B):=by simp
 have e':A++a::b::B=(A++[a])++(b::B):=by simp
 rw[e'] at h;rw[e] at s;obtain⟨s1,s2,es,k1,k2⟩:=Ij.1 s;have inA:∀x∈A++[a],x=a\/[x,a].Sublist (A++[a]):=fun x hx=>by
  rcases bN.1 hx with g|g
  ·exact .inr<|(SR g).append<|Az [a]
  ·exact .inl<|cr.1 g
 have inB:∀x∈b::B,x=b\/[b,x].Sublist (b::B):=fun x hx=>by
  rcases aY.1 hx with g|g
  ·exact .inl g
  ·exact .inr<|(SR g).cons_cons b
 have ma:[a].Sublist (A++[a]):=SR (by simp);have mb:[b].Sublist (b::B):=SR (by simp);cases k2 with
 |cons _ k2=>exact h p q r (by rw[es];exact k1.append k2)
 |cons_cons _ k2=>
  rename_i s3
  match s1,es with
  |[],es=>
   simp at es;obtain⟨rfl,rfl⟩:=es;have hq:q∈b::B:=k2.subset (by simp);rw[abJ];refine aeL h0 h1 (h _ _ _<|ma.append k2) ?_;cases k2 with
   |cons _ k2=>exact h _ _ _<|(k2.cons_cons b).trans<|Il _ _
   |cons_cons _ k2=>rw[La];exact j6
  |[x],es=>
   simp at es;obtain⟨rfl,rfl,rfl⟩:=es;have hp:p∈A++[a]:=k1.subset (by simp);have hr:r∈b::B:=k2.subset (by simp);rw[abI];refine aeL h0 h1 ?_ ?_
   ·rcases inA p hp with g|g
    ·rw[g,La];exact j6
    ·exact h _ _ _<|g.append k2
   ·rcases inB r hr with g|g
    ·rw[g,wI];exact j6
    ·exact h _ _ _<|k1.append g
  |[x,y],es=>
   simp at es;obtain⟨rfl,rfl,rfl,rfl⟩:=es;have hq:q∈A++[a]:=k1.subset (by simp);rw[Hq];refine aeL h0 h1 ?_<|h _ _ _<|k1.append mb
   obtain⟨t1,t2,et,j1,j2⟩:=Ij.1 k1
   match t1,et with
   |[],et=>simp at et;subst et;have:=j2.length_le;simp at this
   |[x],et=>
    simp at et;obtain⟨rfl,rfl⟩:=et;have:q=a:=by simpa using j2
    rw[this,wI];exact j6
   |[x,y],et=>
    simp at et;obtain⟨rfl,rfl,rfl⟩:=et;exact h _ _ _ ((j1.append<|Az [a]).trans (by simp))
   |x::y::z::w,et=>simp at et
  |x::y::z::w,es=>simp at es
theorem aif{n:Q3}{A:att Q3}{a f:Q3}(h0:0<=t)(h1:t<=1)(hf:(A++[a]).head?=some f)(h:Wk n (A++[a])):Wk n (A++[a,tE a f t]):=by
 intro p q r s;have e:A++[a,tE a f t]=(A++[a])++[tE a f t]:=by simp
 rw[e] at s;obtain⟨s1,s2,es,k1,k2⟩:=Ij.1 s;cases k2 with
 |cons _ k2=>
  have:s2=[]:=by simpa using k2
  subst this;rw[rW] at es;exact h p q r (by rw[es];exact k1)
 |cons_cons _ k2=>
  rename_i s3;have:s3=[]:=by simpa using k2
  subst this
  match s1,es with
  |[],es=>simp at es
  |[x],es=>simp at es
  |[x,y],es=>
   simp at es;obtain⟨rfl,rfl,rfl⟩:=es;rw[Hq];refine aeL h0 h1 ?_ ?_
   ·obtain⟨t1,t2,et,j1,j2⟩:=Ij.1 k1
    match t1,et with
    |[],et=>simp at et;subst et;have:=j2.length_le;simp at this
    |[x],et=>
     simp at et;obtain⟨rfl,rfl⟩:=et;have:q=a:=by simpa using j2
     rw[this,wI];exact j6
    |[x,y],et=>
     simp at et;obtain⟨rfl,rfl,rfl⟩:=et;exact h _ _ _<|j1.append<|Az [a]
    |x::y::z::w,et=>simp at et
   ·rw[Hs,Hs]
    match hA:A++[a],hf with
    |x::M,hf=>
     have:x=f:=by simpa using hf
     subst this;rw[hA] at k1 h;cases k1 with
     |cons _ k1=>exact h _ _ _<|k1.cons_cons x
     |cons_cons _ k1=>rw[La];exact j6
  |x::y::z::w,es=>simp at es
theorem Dy{a b:Q3}(h:cg b a=o3):a=b:=by
 have e1:=congrArg Prod.fst h;have e2:=congrArg (fun x=>x.2.1) h;have e3:=congrArg (fun x=>x.2.2) h;simp only[cg,o3] at e1 e2 e3;exact lW (by grind) (by grind) (by grind)
theorem vI{d:Q3}(h1:d.1=0)(h2:d.2.1=0)(h3:d.2.2=0):d=o3:=lW h1 h2 h3
theorem par{u w:Q3}(hu:u≠o3)(h:aG u w=o3):w=ik u (aP u w/aP u u):=by
 have hp:=lD hu;have e1:=congrArg Prod.fst h;have e2:=congrArg (fun x=>x.2.1) h;have e3:=congrArg (fun x=>x.2.2) h;simp only[aG,o3] at e1 e2 e3;have key:aP u w/aP u u*aP u u=aP u w:=wV (by grind)
 generalize aP u w/aP u u=s at key⊢
 have z:∀x:Rat,aP u u*x=0->x=0:=fun x hx=>by
  rcases lq.1 hx with g|g
  ·grind
  ·exact g
 have g1:w.1-u.1*s=0:=z _ (by unfold aP at*;grind);have g2:w.2.1-u.2.1*s=0:=z _ (by unfold aP at*;grind);have g3:w.2.2-u.2.2*s=0:=z _ (by unfold aP at*;grind);exact lW (by simp only[ik];grind) (by simp only[ik];grind) (by simp only[ik];grind)
theorem CL{u:Q3}:aG u u=o3:=vI (by simp only[aG];grind) (by simp only[aG];grind) (by simp only[aG];grind)
theorem Gx(u w:Q3):aP u (aG u w)=0:=by unfold aP aG;grind
theorem CJ(u w:Q3):aP w (aG u w)=0:=by unfold aP aG;grind
theorem along{u w d:Q3}(h:aG u w≠o3)(h1:aP u d=0)(h2:aP w d=0):∃s,d=ik (aG u w) s:=by
 refine⟨_,par h ?_⟩;unfold aP at h1 h2;exact vI (by simp only[aG];grind) (by simp only[aG];grind) (by simp only[aG];grind)
theorem flat{n x y:Q3}(hn:n≠o3)(hx:aP n x=0)(hy:aP n y=0)(h:aP n (aG x y)=0):aG x y=o3:=by
 have hp:=lD hn;have e:aP (aG x y) (aG x y)*aP n n=aP n (aG x y)*aP n (aG x y)+aP (aG (aG x y) n) (aG (aG x y) n):=by
  unfold aP aG;grind
 have e2:aG (aG x y) n=o3:=by
  have:aG (aG x y) n=cg (ik y<|aP n x) (ik x<|aP n y):=by
   unfold aG cg ik aP;refine lW ?_ ?_ ?_<;>dsimp only<;>grind
  rw[this,hx,hy];unfold cg ik o3;refine lW ?_ ?_ ?_<;>dsimp only<;>grind
 rw[h,e2,Qa] at e;refine P9 ?_;rcases lq.1 (show aP (aG x y) (aG x y)*aP n n=0 by grind) with g|g<;>grind
theorem aeP{L:att H3}{p:Q3}(hm:Mem L p){f g h:H3}(mf:f∈L)(mg:g∈L)(mh:h∈L)(tf:val f p=0)(tg:val g p=0)(th:val h p=0)(hd:aP h.1 (aG f.1 g.1)≠0):rG L p:=by
 refine⟨hm,fun d hd'=>?_⟩;have hc:aG f.1 g.1≠o3:=fun e=>hd (by rw[e,Qa])
 obtain⟨s,rfl⟩:=along hc (hd' f mf tf)<|hd' g mg tg
 have:=hd' h mh th;rw[je] at this;rcases lq.1 this with e|e
 ·rw[e];exact vI (by simp only[ik];grind) (by simp only[ik];grind) (by simp only[ik];grind)
 ·exact absurd e hd
theorem val_sub(h:H3)(a b:Q3):aP h.1 (cg b a)=val h b-val h a:=by unfold val;rw[Fc];grind
theorem QB{L:att H3}{v a b:Q3}(hv:rG L v)(ha:Mem L a)(hb:Mem L b)(h0:0<t)(h1:t<1)(e:v=tE a b t):a=b:=by
 refine Dy<|hv.2 _ fun h mh th=>?_
 rw[e,gW] at th;have x:=ft (show 0<=1-t by grind) (show 0<= -val h a by have:=ha h mh;grind);have y:=ft (show 0<=t by grind) (show 0<= -val h b by have:=hb h mh;grind);have x0:(1-t)*val h a=0:=by grind
 have y0:t*val h b=0:=by grind
 rw[val_sub];rcases lq.1 x0 with g|g
 ·grind
 ·rcases lq.1 y0 with g'|g'
  ·grind
  ·rw[g,g'];grind
theorem SH{L:att H3}{a b c:Q3}(ha:rG L a)(hb:rG L b)(hc:rG L c)(Oi:a≠b)(hac:a≠c)(hbc:b≠c):aG (cg b a) (cg c a)≠o3:=by
 intro h;have hz:cg b a≠o3:=fun e=>Oi<|Dy e
 have e:=par hz h
 generalize aP (cg b a) (cg c a)/aP (cg b a) (cg b a)=s at e
 have e1:=congrArg Prod.fst e;have e2:=congrArg (fun x=>x.2.1) e;have e3:=congrArg (fun x=>x.2.2) e;simp only[cg,ik] at e1 e2 e3;have Wf:s≠0:=fun g=>hac (by subst g;exact lW (by grind) (by grind) (by grind))
 have hs1:s≠1:=fun g=>hbc (by subst g;exact lW (by grind) (by grind) (by grind))
 by_cases h1:1<s
 ·
  have i1:=LB s Wf;have i2:0<s⁻¹ :=Cp.2 (by grind);have i3:s⁻¹ <1:=by
   have:=kC i2 (show 0<s-1 by grind);grind
  refine hac<|QB hb ha.1 hc.1 i2 i3 ?_
  exact lW (by simp only[tE,j4,ik,cg];grind) (by simp only[tE,j4,ik,cg];grind) (by simp only[tE,j4,ik,cg];grind)
 ·by_cases h2:0<s
  ·refine Oi (QB hc ha.1 hb.1 h2 (by grind) ?_);exact lW (by simp only[tE,j4,ik,cg];grind) (by simp only[tE,j4,ik,cg];grind) (by simp only[tE,j4,ik,cg];grind)
  ·
   have hs:0<1-s:=by grind
   have i1:=LB (1-s) (by grind);have i2:0<(1-s)⁻¹ :=Cp.2 hs;have i3:(1-s)⁻¹ <1:=by
    have:=kC i2 (show 0< -s by grind);grind
   refine hbc<|QB ha hb.1 hc.1 (t:=(1-s)⁻¹) i2 i3 ?_
   exact lW (by simp only[tE,j4,ik,cg];grind) (by simp only[tE,j4,ik,cg];grind) (by simp only[tE,j4,ik,cg];grind)
theorem Xh{L:att H3}{f:H3}(hf:f.1≠o3){a b c:Q3}(ha:rG L a)(hb:rG L b)(hc:rG L c)(ta:val f a=0)(tb:val f b=0)(tc:val f c=0)(Oi:a≠b)(hac:a≠c)(hbc:b≠c):qy f.1 a b c≠0:=fun e=>
 SH ha hb hc Oi hac hbc (flat hf (by rw[val_sub,ta,tb];grind) (by rw[val_sub,ta,tc];grind) e)
theorem room{L:att H3}{q w:Q3}:Mem L q->(∀h∈L,val h q=0->aP h.1 w<=0)->∃e:Rat,0<e/\∀t,0<=t->t<=e->Mem L (j4 q<|ik w t):=by
 induction L with
 |nil=>exact fun _ _=>⟨1,by decide,fun _ _ _ h m=>by cases m⟩
 |cons h L ih=>
  intro hq ht;obtain⟨e,e0,he⟩:=ih (fun k m=>hq k<|cW _ m)<|fun k m=>ht k<|cW _ m
  have hv:=hq h gJ;by_cases g:0<aP h.1 w
  ·have hne:val h q≠0:=fun z=>by have:=ht h gJ z;grind
   have hr:0< -val h q/aP h.1 w:=by rw[Cq];exact kC (by grind)<|Cp.2 g
   have hc: -val h q/aP h.1 w*aP h.1 w= -val h q:=wV (by grind)
   generalize -val h q/aP h.1 w=r at*
   have one:∀t,0<=t->t<=r->val h (j4 q<|ik w t)<=0:=fun t t0 t1=>by
    rw[Dw];have:=LS t1<|jQ g
    grind
   rcases Lk (a:=e) (b:=r) with c|c
   ·refine⟨e,e0,fun t t0 t1 k m=>?_⟩;rcases aY.1 m with z|m
    ·rw[z];exact one t t0<|Cr t1 c
    ·exact he t t0 t1 k m
   ·refine⟨r,hr,fun t t0 t1 k m=>?_⟩;rcases aY.1 m with z|m
    ·rw[z];exact one t t0 t1
    ·exact he t t0 (Cr t1 c) k m
  ·refine⟨e,e0,fun t t0 t1 k m=>?_⟩;rcases aY.1 m with z|m
   ·rw[z,Dw];have:=ft t0 (show 0<= -aP h.1 w by grind)
    grind
   ·exact he t t0 t1 k m
theorem tX(n:Q3):∃d:Q3,d≠o3/\aP n d=0:=by
 by_cases h:n.1=0
 ·exact⟨(1,0,0),fun e=>by have:=congrArg Prod.fst e;simp only[o3] at this;grind,by unfold aP;grind⟩
 ·exact⟨(-n.2.1,n.1,0),fun e=>h (by have:=congrArg (fun x=>x.2.1) e;simp only[o3] at this;exact this),by unfold aP;grind⟩
theorem wu(u w:Q3):aG w u=ik (aG u w) (-1):=by
 unfold aG ik;refine lW ?_ ?_ ?_<;>dsimp only<;>grind
theorem two{N:att Q3}(h:∀u∈N,∀w∈N,aG u w=o3)(m:Q3):∃d:Q3,d≠o3/\(∀u∈N,aP u d=0)/\aP m d=0:=by
 by_cases hz:∀u∈N,u=o3
 ·obtain⟨d,d0,d1⟩:=tX m;exact⟨d,d0,fun u mu=>by rw[hz u mu,pG,Qa],d1⟩
 ·obtain⟨n,hn⟩:=Classical.not_forall.1 hz;obtain⟨mn,n0⟩:=Classical.not_imp.1 hn;have alr:∀d,aP n d=0->∀u∈N,aP u d=0:=fun d hd u mu=>by
   rw[par n0<|h n mn u mu,rN,hd];grind
  by_cases hc:aG n m=o3
  ·obtain⟨d,d0,d1⟩:=tX n;exact⟨d,d0,alr d d1,by rw[par n0 hc,rN,d1];grind⟩
  ·exact⟨_,hc,alr _<|Gx _ _,CJ _ _⟩
theorem arz{L:att H3}(hb:zQ L){q:Q3}(hq:Mem L q)(hv: ¬rG L q){f g:H3}(mf:f∈L)(mg:g∈L)(tf:val f q=0)(tg:val g q=0)(hc:aG f.1 g.1≠o3):
  ∃u v t,rG L u/\rG L v/\0<t/\t<1/\q=tE u v t/\(∀h∈L,val h q=0->val h u=0/\val h v=0)/\u≠v:=by
 have:∃d:Q3,(∀h∈L,val h q=0->aP h.1 d=0)/\d≠o3:=by
  refine eK fun hn=>hv ⟨hq,fun d hd=>?_⟩
  exact eK fun hz=>hn ⟨d,hd,hz⟩
 obtain⟨d,ht,hz⟩:=this;obtain⟨v,v1,v2,v3⟩:=B2 hb hq d;obtain⟨u,u1,u2,u3⟩:=B2 hb hq<|ik d<| -1
 rw[rN,rN] at u2;obtain⟨s0,e0⟩:=along hc (ht f mf tf)<|ht g mg tg
 obtain⟨s1,e1⟩:=along hc (d:=cg u q) (by rw[val_sub,u3 f mf tf,tf];grind) (by rw[val_sub,u3 g mg tg,tg];grind);obtain⟨s2,e2⟩:=along hc (d:=cg v q) (by rw[val_sub,v3 f mf tf,tf];grind) (by rw[val_sub,v3 g mg tg,tg];grind)
 generalize aG f.1 g.1=e at*
 have he:=lD hc;have nz:∀{x:Q3} {s:Rat},rG L x->cg x q=ik e s->s≠0:=fun{x s} hx h z=>by
  rw[z] at h;have:q=x:=Dy (h.trans (vI (by simp only[ik];grind) (by simp only[ik];grind) (by simp only[ik];grind)));exact hv<|this▸hx
 have n1:=nz u1 e1;have n2:=nz v1 e2;have n0:s0≠0:=fun z=>hz (by rw[e0,z];exact(vI (by simp only[ik];grind) (by simp only[ik];grind) (by simp only[ik];grind)))
 have p2:0<=aP d (cg v q):=by rw[Fc];grind
 have p1:aP d (cg u q)<=0:=by rw[Fc];grind
 rw[e0,e2,je,rN] at p2;rw[e0,e1,je,rN] at p1;have q2:0<=s0*s2:=eK fun c=>by
  have:=kC (show 0< -(s0*s2) by grind) he;grind
 have q1:s0*s1<=0:=eK fun c=>by
  have:=kC (show 0<s0*s1 by grind) he;grind
 have r2:0<s0*s2:=by
  have:s0*s2≠0:=fun c=>by rcases lq.1 c with g|g<;>contradiction
  grind
 have r1:s0*s1<0:=by
  have:s0*s1≠0:=fun c=>by rcases lq.1 c with g|g<;>contradiction
  grind
 have r3:s0*(s1-s2)<0:=by grind
 have n3:s1-s2≠0:=fun c=>by rw[c] at r3;grind
 have c1:s1/(s1-s2)*(s1-s2)=s1:=wV n3
 generalize s1/(s1-s2)=t at c1
 have c2:s0*(t*(s1-s2))=s0*s1:=by rw[c1]
 have t0:0<t:=eK fun c=>by
  have:=ft (show 0<= -t by grind) (show 0<= -(s0*(s1-s2)) by grind)
  grind
 have t1:t<1:=eK fun c=>by
  have:=ft (show 0<=t-1 by grind) (show 0<= -(s0*(s1-s2)) by grind)
  grind
 have k1:=congrArg Prod.fst e1;have k2:=congrArg (fun x=>x.2.1) e1;have k3:=congrArg (fun x=>x.2.2) e1;have l1:=congrArg Prod.fst e2;have l2:=congrArg (fun x=>x.2.1) e2;have l3:=congrArg (fun x=>x.2.2) e2;simp only[cg,ik] at k1 k2 k3 l1 l2 l3;refine⟨u,v,t,u1,v1,t0,t1,?_,fun h mh th=>⟨u3 h mh th,v3 h mh th⟩,fun c=>n3 ?_⟩
 ·exact lW (by simp only[tE,j4,ik,cg];grind) (by simp only[tE,j4,ik,cg];grind) (by simp only[tE,j4,ik,cg];grind)
 ·rw[c] at e1;have:aP e (cg v q)=s1*aP e e:=by rw[e1,je]
  have h2:aP e (cg v q)=s2*aP e e:=by rw[e2,je]
  rcases lq.1 (show(s1-s2)*aP e e=0 by grind) with g|g<;>grind
def kF(f:Q3):att Q3->att (Q3×Q3)
 |[]=>[]
 |[a]=>[(a,f)]
 |a::b::l=>(a,b)::kF f (b::l)
def tN:att Q3->att (Q3×Q3)
 |[]=>[]
 |a::l=>kF a (a::l)
def Lb(x y:Rat):Bool:=(decide (x<0)&&decide (0<y))||(decide (0<x)&&decide (y<0))
def Dc(h:H3)(a b:Q3):Q3:=tE a b<|val h a/(val h a-val h b)
def y5(h:H3)(s:Q3×Q3):att Q3:=(bif decide (val h s.1<=0) then [s.1] else [])++(bif Lb (val h s.1) (val h s.2) then [Dc h s.1 s.2] else [])
def kY(h:H3)(l:att Q3):att Q3:=(tN l).flatMap<|y5 h
def Yr(h:H3)(s:Q3×Q3):att Q3:=s.1::(bif Lb (val h s.1) (val h s.2) then [Dc h s.1 s.2] else [])
theorem uH:Lb x y=true↔(x<0/\0<y)\/(0<x/\y<0):=by unfold Lb;simp
theorem M0(h:Lb x y=true):0<x/(x-y)/\x/(x-y)<1/\(1-x/(x-y))*x+x/(x-y)*y=0:=by
 have h:=uH.1 h;have hn:x-y≠0:=by grind
 have e:x/(x-y)*(x-y)=x:=wV hn
 generalize x/(x-y)=t at e
 have t0:0<t:=eK fun c=>by
  rcases h with⟨a,b⟩|⟨a,b⟩
  ·have:=ft (show 0<= -t by grind) (show 0<=y-x by grind);grind
  ·have:=ft (show 0<= -t by grind) (show 0<=x-y by grind);grind
 have t1:t<1:=eK fun c=>by
  rcases h with⟨a,b⟩|⟨a,b⟩
  ·have:=ft (show 0<=t-1 by grind) (show 0<=y-x by grind);grind
  ·have:=ft (show 0<=t-1 by grind) (show 0<=x-y by grind);grind
 exact⟨t0,t1,by grind⟩
theorem QE{h:H3}{a b:Q3}(ho:Lb (val h a) (val h b)=true):val h (Dc h a b)=0:=by
 unfold Dc;rw[gW];exact(M0 ho).2.2
theorem Yq{n:Q3}{h:H3}{f:Q3}:∀(l A:att Q3),l≠[]->(A++l).head?=some f->Wk n (A++l)->Wk n (A++(kF f l).flatMap (Yr h))
 |[],_,h0,_,_=>absurd rfl h0
 |[a],A,_,hf,hw=>by
  unfold kF;rw[Ay,List.flatMap_nil,rW];unfold Yr;cases ho:Lb (val h a) (val h f) with
  |false=>rw[a8];exact hw
  |true=>
   have t:=M0 ho;rw[bD];exact aif (jQ t.1) (jQ t.2.1) hf hw
 |a::b::l,A,_,hf,hw=>by
  unfold kF;rw[Ay,<-nR];refine Yq (b::l) _ (by simp) ?_ ?_
  ·cases A with
   |nil=>exact hf
   |cons x A=>exact hf
  ·unfold Yr;cases ho:Lb (val h a) (val h b) with
   |false=>rw[a8];simpa using hw
   |true=>
    have t:=M0 ho;rw[bD];have:=aie (jQ t.1) (jQ t.2.1) hw;simpa[Dc] using this
theorem Uy{α β:Type}{f g:α->att β}:∀{l:att α},(∀x∈l,(f x).Sublist<|g x)->(l.flatMap f).Sublist (l.flatMap g)
 |[],_=>Az _
 |x::l,h=>by
  rw[Ay,Ay];exact(h x gJ).append<|Uy fun y m=>h y<|cW _ m
theorem agX{n:Q3}{h:H3}{l:att Q3}(hw:Wk n l):Wk n (kY h l):=by
 cases l with
 |nil=>exact hw
 |cons a l=>
  have:=Yq (h:=h) (a::l) [] (by simp) rfl hw;refine Wk.sub this<|Uy fun s _=>?_
  unfold y5 Yr;cases decide (val h s.1<=0)
  ·exact List.sublist_cons_self _ _
  ·exact Az _
theorem JZ{f:Q3}{s:Q3×Q3}:∀{l A:att Q3},(A++l).head?=some f->s∈kF f l->(∃B C,A++l=B++s.1::s.2::C)\/(∃B,A++l=B++[s.1]/\s.2=f)
 |[],A,_,h=>by cases h
 |[a],A,_,h=>by
  have:s=(a,f):=by simpa[kF] using h
  subst this;exact .inr ⟨A,rfl,rfl⟩
 |a::b::l,A,hf,h=>by
  unfold kF at h;rcases aY.1 h with e|h
  ·subst e;exact .inl ⟨A,l,rfl⟩
  ·have:=JZ (l:=b::l) (A:=A++[a]) (by simpa using hf) h;simpa using this
theorem F9{f a b:Q3}{C:att Q3}:∀{B:att Q3},(a,b)∈kF f (B++a::b::C)
 |[]=>by simp[kF]
 |[x]=>by simp[kF]
 |x::y::B=>by
  have:=F9 (f:=f) (a:=a) (b:=b) (C:=C) (B:=y::B);show(a,b)∈(x,y)::kF f (y::(B++a::b::C));exact cW _ this
theorem Ha{f a:Q3}:∀{B:att Q3},(a,f)∈kF f (B++[a])
 |[]=>by simp[kF]
 |[x]=>by simp[kF]
 |x::y::B=>by
  have:=Ha (f:=f) (a:=a) (B:=y::B);show(a,f)∈(x,y)::kF f (y::(B++[a]));exact cW _ this
theorem J0{f:Q3}:∀l:att Q3,(kF f l).map Prod.fst=l
 |[]=>rfl
 |[a]=>rfl
 |a::b::l=>by unfold kF;rw[qg,J0 (b::l)]
theorem Pu(l:att Q3):(tN l).map Prod.fst=l:=by
 cases l with
 |nil=>rfl
 |cons a l=>exact J0 _
theorem Kl.ne{n:Q3}{l:att Q3}(h:Kl n l){a b c:Q3}(s:[a,b,c].Sublist l):a≠b/\a≠c/\b≠c:=by
 have:=h a b c s;refine⟨fun e=>?_,fun e=>?_,fun e=>?_⟩
 ·rw[e,La] at this;grind
 ·rw[e,K9] at this;grind
 ·rw[e,wI] at this;grind
theorem Kl.nodup{n:Q3}{l:att Q3}(h:Kl n l)(h3:3<=l.length):l.Nodup:=by
 refine LU.2 fun{a b} s e=>?_
 subst e;obtain⟨c,hc⟩:∃c,[c,a,a].Sublist l\/[a,c,a].Sublist l\/[a,a,c].Sublist l:=by
  clear h
  induction l with
  |nil=>cases s
  |cons x l ih=>
   cases s with
   |cons _ s=>exact⟨x,.inl<|s.cons_cons x⟩
   |cons_cons _ s=>
    match l,h3,s with
    |y::z::l,_,s=>
     cases s with
     |cons _ s=>exact⟨y,.inr<| .inl<|(s.cons_cons y).cons_cons a⟩
     |cons_cons _ s=>exact⟨z,.inr (.inr (((SR (by simp)).cons_cons a).cons_cons a))⟩
 rcases hc with s|s|s
 ·exact(h.ne s).2.2 rfl
 ·exact(h.ne s).2.1 rfl
 ·exact(h.ne s).1 rfl
theorem Tw(n a b c:Q3):qy n b a c= -qy n a b c:=by unfold qy aP aG cg;grind
theorem vS{n:Q3}{l:att Q3}(hl:Kl n l)(h3:3<=l.length){s:Q3×Q3}(hs:s∈tN l):s.1∈l/\s.2∈l/\s.1≠s.2/\∀c∈l,c≠s.1->c≠s.2->0<qy n s.1 s.2 c:=by
 have hn:=hl.nodup h3;obtain⟨a,b⟩:=s
 match l,h3,hs with
 |f::l,h3,hs=>
  rcases JZ (A:=[]) (by rfl) hs with⟨B,C,e⟩|⟨B,e,e2⟩
  ·rw[qL] at e;rw[e] at hn hl⊢;refine⟨by simp,by simp,?_,fun c hc h1 h2=>?_⟩
   ·have:[a,b].Sublist (B++a::b::C):=((vg C).cons_cons b|>.cons_cons a).trans (Il _ _);exact LU.1 hn this
   ·rcases bN.1 hc with m|m
    ·rw[<-Hs];exact hl _ _ _<|(SR m).append<|((vg C).cons_cons b).cons_cons a
    ·have m:c∈C:=by simpa[h1,h2] using m
     exact hl _ _ _<|((SR m).cons_cons b|>.cons_cons a).trans<|Il _ _
  ·rw[qL] at e;dsimp only at e e2;subst e2
   match B,e with
   |[],e=>rw[e] at h3;simp at h3
   |x::B,e=>
    have:b=x:=by simpa using congrArg List.head? e
    subst this;rw[e] at hn hl⊢;refine⟨by simp,by simp,?_,fun c hc h1 h2=>?_⟩
    ·have:[b,a].Sublist (b::B++[a]):=((vg B).append<|Az [a]).cons_cons b;exact fun e=>LU.1 hn this e.symm
    ·have m:c∈B:=by simpa[h1,h2] using hc
     rw[Hs];exact hl _ _ _<|((SR m).append<|Az [a]).cons_cons b
theorem alh{l:att Q3}(hn:l.Nodup)(h3:3<=l.length)(a b:Q3):∃c∈l,c≠a/\c≠b:=by
 match l,h3,hn with
 |x::y::z::l,_,hn=>
  simp at hn;by_cases h1:x≠a/\x≠b
  ·exact⟨x,by simp,h1⟩
  ·by_cases h2:y≠a/\y≠b
   ·exact⟨y,by simp,h2⟩
   ·refine⟨z,by simp,fun e=>?_,fun e=>?_⟩<;>subst e<;>grind
theorem Zg{n:Q3}{l:att Q3}(hl:Kl n l)(h3:3<=l.length){a b:Q3}(h1:(a,b)∈tN l)(h2:(b,a)∈tN l):False:=by
 obtain⟨c,mc,ca,cb⟩:=alh (hl.nodup h3) h3 a b;have p:=(vS hl h3 h1).2.2.2 c mc ca cb;have q:=(vS hl h3 h2).2.2.2 c mc cb ca;dsimp only at p q;rw[Tw] at q
 grind
theorem VC{n:Q3}{l:att Q3}(hl:Kl n l)(h3:3<=l.length){s r:Q3×Q3}(hs:s∈tN l)(hr:r∈tN l)(hne:s.1≠r.1){u:Rat}(t0:0<=t)(t1:t<1)(u0:0<=u)(u1:u<1):tE s.1 s.2 t≠tE r.1 r.2 u:=by
 intro e;obtain⟨a,b⟩:=s;obtain⟨c,d⟩:=r;obtain⟨s1,s2,s3,s4⟩:=vS hl h3 hs;obtain⟨r1,r2,r3,r4⟩:=vS hl h3 hr;dsimp only at*;have z:qy n a b (tE a b t)=0:=by rw[Hq,K9,wI];grind
 rw[e,Hq] at z;have dn:0<=qy n a b d:=by
  by_cases h1:d=a
  ·rw[h1,K9];exact j6
  ·by_cases h2:d=b
   ·rw[h2,wI];exact j6
   ·exact jQ<|s4 d r2 h1 h2
 by_cases hcb:c=b
 ·subst hcb;rw[wI] at z;have hda:d≠a:=fun g=>Zg hl h3 hs<|g▸hr
  have dp:=s4 d r2 hda<|Ne.symm r3
  have:u=0:=by
   rcases lq.1 (show u*qy n a c d=0 by grind) with g|g
   ·exact g
   ·grind
  subst this;refine s3 ?_;have e1:=congrArg Prod.fst e;have e2:=congrArg (fun x=>x.2.1) e;have e3:=congrArg (fun x=>x.2.2) e;simp only[tE,j4,ik,cg] at e1 e2 e3;have q1:(1-t)*(a.1-c.1)=0:=by grind
  have q2:(1-t)*(a.2.1-c.2.1)=0:=by grind
  have q3:(1-t)*(a.2.2-c.2.2)=0:=by grind
  have z:∀x:Rat,(1-t)*x=0->x=0:=fun x h=>by
   rcases lq.1 h with g|g
   ·grind
   ·exact g
  have:=z _ q1;have:=z _ q2;have:=z _ q3;exact lW (by grind) (by grind) (by grind)
 ·have cp:=s4 c r1 (Ne.symm hne) hcb;have:=kC (show 0<1-u by grind) cp;have:=ft u0 dn
  grind
theorem alw(a b:Q3):tE a b 0=a:=lW (by simp only[tE,j4,ik,cg];grind) (by simp only[tE,j4,ik,cg];grind) (by simp only[tE,j4,ik,cg];grind)
theorem SS{h:H3}{s:Q3×Q3}{x:Q3}(hx:x∈y5 h s):(x=s.1/\val h x<=0)\/(Lb (val h s.1) (val h s.2)=true/\x=Dc h s.1 s.2):=by
 unfold y5 at hx;rcases bN.1 hx with m|m
 ·cases hd:decide (val h s.1<=0) with
  |false=>rw[hd] at m;cases m
  |true=>
   rw[hd] at m;have e:x=s.1:=cr.1 m;rw[e];exact .inl ⟨rfl,aZ hd⟩
 ·cases hd:Lb (val h s.1) (val h s.2) with
  |false=>rw[hd] at m;cases m
  |true=>rw[hd] at m;exact .inr ⟨rfl,by simpa using m⟩
theorem WO{n:Q3}{h:H3}{l:att Q3}(hl:Kl n l)(h3:3<=l.length):(kY h l).Nodup:=by
 unfold kY List.Nodup;have half:∀s x,x∈y5 h s->∃t:Rat,0<=t/\t<1/\x=tE s.1 s.2 t:=fun s x hx=>by
  rcases SS hx with⟨e,_⟩|⟨ho,e⟩
  ·exact⟨0,j6,by decide,by rw[alw];exact e⟩
  ·have t:=M0 ho;exact⟨_,jQ t.1,t.2.1,e⟩
 have hp:((tN l).map Prod.fst).Nodup:=by rw[Pu];exact hl.nodup h3
 have hp:=yu.1 hp;refine List.pairwise_flatMap.2 ⟨fun s hs=>?_,?_⟩
 ·unfold y5;cases decide (val h s.1<=0)
  ·cases Lb (val h s.1) (val h s.2)<;>simp
  ·cases ho:Lb (val h s.1) (val h s.2)
   ·simp
   ·have t0:=(M0 ho).1;have hne:=(vS hl h3 hs).2.2.1;simp only[bD,Ax,qL,qM,cr,forall_eq,Aw,List.Pairwise.nil,and_true,false_implies,implies_true];intro e;refine hne<|Dy ?_
    unfold Dc at e
    generalize val h s.1/(val h s.1-val h s.2)=t at e t0
    have e1:=congrArg Prod.fst e;have e2:=congrArg (fun x=>x.2.1) e;have e3:=congrArg (fun x=>x.2.2) e;simp only[tE,j4,ik,cg] at e1 e2 e3;have z:∀x:Rat,x*t=0->x=0:=fun x h=>by
     rcases lq.1 h with g|g
     ·exact g
     ·grind
    exact vI (z _ (by simp only[cg];grind)) (z _ (by simp only[cg];grind)) (z _ (by simp only[cg];grind))
 ·refine LN ?_ hp;intro s r hs hr hne x hx y hy e;obtain⟨t,t0,t1,ex⟩:=half s x hx;obtain⟨u,u0,u1,ey⟩:=half r y hy;exact VC hl h3 hs hr hne t0 t1 u0 u1 (by rw[<-ex,<-ey,e])
theorem adj{n:Q3}{l:att Q3}(hl:Kl n l){u v:Q3}(hu:u∈l)(hv:v∈l)(hne:u≠v)(h:∀x∈l,∀y∈l,qy n u v x<0->0<qy n u v y->False):(u,v)∈tN l\/(v,u)∈tN l:=by
 have key:∀{u v:Q3} {A D:att Q3},l=A++u::D->v∈D->(∀x∈l,∀y∈l,qy n u v x<0->0<qy n u v y->False)->(u,v)∈tN l\/(v,u)∈tN l:=by
  intro u v A D e hD h;obtain⟨B,C,rfl⟩:=List.append_of_mem hD;cases B with
  |nil=>
   left;rw[e]
   match A with
   |[]=>exact F9 (B:=[])
   |x::A=>exact F9 (B:=x::A)
  |cons x B=>
   have hx:qy n u v x<0:=by
    have:=hl u x v (by
     rw[e];refine((List.Sublist.cons_cons u ?_)).trans<|Il _ _
     exact((vg B).append (vg C|>.cons_cons v)).cons_cons x)
    have e2:qy n u v x= -qy n u x v:=by unfold qy aP aG cg;grind
    rw[e2];grind
   have mx:x∈l:=by rw[e];simp
   match A,C with
   |[],[]=>right;rw[e];exact Ha (B:=u::x::B)
   |y::A,_=>
    refine(h x mx y (by rw[e];simp) hx ?_).elim;rw[<-Hs];refine hl y u v ?_;rw[e];exact List.Sublist.cons_cons y<|(List.Sublist.cons_cons u<|(vg (x::B)).append (vg _|>.cons_cons v)).trans<|Il _ _
   |[],y::C=>
    refine(h x mx y (by rw[e];simp) hx ?_).elim;refine hl u v y ?_;rw[e];exact List.Sublist.cons_cons u<|(vg (x::B)).append<|(vg C|>.cons_cons y).cons_cons v
 obtain⟨A,D,e⟩:=List.append_of_mem hu;have Vf:v∈A++u::D:=e▸hv;rcases bN.1 Vf with m|m
 ·obtain⟨A1,A2,rfl⟩:=List.append_of_mem m;refine(key (u:=v) (v:=u) (A:=A1) (D:=A2++u::D) (by rw[e];simp) (by simp) fun x mx y my h1 h2=>?_).symm;rw[Tw] at h1 h2;exact h y my x mx (by grind) (by grind)
 ·exact key e (by simpa[Ne.symm hne] using m) h
abbrev iK:=H3×att Q3
def Od(h k:H3):Prop:=∃s:Rat,0<s/\k=(ik h.1 s,h.2*s)
structure nu(S:att iK)(M:att H3):Prop where
 bdd:zQ M
 int:∃o,∀h∈M,val h o<0
 nz:∀h∈M,h.1≠o3
 norm:∀h∈M,∀k∈M,Od h k->h=k
 zF:∀f∈S,f.1∈M/\Kl f.1.1 f.2/\3<=f.2.length/\∀p,p∈f.2↔rG M p/\val f.1 p=0
 WH:S.Pairwise fun f g=>f.1≠g.1
 cover:∀p,Mem M p->(∃h∈M,val h p=0)->∃f∈S,val f.1 p=0
theorem aa3{h:H3}{p:Q3}(e:val h p=0):h.2=aP h.1 p:=by unfold val at e;grind
theorem aiF{M:att H3}{o:Q3}(hi:∀h∈M,val h o<0)(hz:∀h∈M,h.1≠o3)(hn:∀h∈M,∀k∈M,Od h k->h=k){h k:H3}(mh:h∈M)(mk:k∈M)(hc:aG h.1 k.1=o3){p:Q3}(th:val h p=0)(tk:val k p=0):h=k:=by
 have e:=par (hz h mh) hc
 generalize aP h.1 k.1/aP h.1 h.1=s at e
 have e2:k.2=h.2*s:=by rw[aa3 tk,aa3 th,e,rN];grind
 refine hn h mh k mk ⟨s,?_,Prod.ext e e2⟩;have a:=hi h mh;have b:=hi k mk;have c:val k o=s*val h o:=by unfold val;rw[e2,e,rN];grind
 refine eK fun g=>?_
 have:=ft (show 0<= -s by grind) (show 0<= -val h o by grind)
 grind
theorem indep{f g k:Q3}(hf:f≠o3)(h:aG g k≠o3):aG f g≠o3\/aG f k≠o3:=by
 by_cases h1:aG f g=o3
 ·by_cases h2:aG f k=o3
  ·refine absurd ?_ h;rw[par hf h1,par hf h2];exact vI (by simp only[aG,ik];grind) (by simp only[aG,ik];grind) (by simp only[aG,ik];grind)
  ·exact .inr h2
 ·exact .inl h1
theorem QU{f k:Q3}(hf:f≠o3)(h:aG f k=o3){w:Q3}(hw:aP f w=0):aP k w=0:=by
 rw[par hf h,rN,hw];grind
theorem Zf{L:att H3}(hb:zQ L){f:H3}(mf:f∈L)(hf:f.1≠o3){l:att Q3}(hl:Kl f.1 l)(h3:3<=l.length)(hv:∀p,p∈l↔rG L p/\val f p=0){s:Q3×Q3}(hs:s∈tN l):
  ∃g∈L,val g s.1=0/\val g s.2=0/\aG f.1 g.1≠o3:=by
 obtain⟨u,v⟩:=s;obtain⟨mu,mv,hne,P3⟩:=vS hl h3 hs;dsimp only at*;obtain⟨vu,tu⟩:=(hv u).1 mu;obtain⟨vv,tv⟩:=(hv v).1 mv;refine eK fun Bk=>?_
 have tight:∀g∈L,val g (tE u v<|1/2)=0->val g u=0/\val g v=0:=fun g mg tg=>by
  rw[gW] at tg;have:=vu.1 g mg;have:=vv.1 g mg
  grind
 have apo:∀g∈L,val g (tE u v<|1/2)=0->aG f.1 g.1=o3:=fun g mg tg=>by
  obtain⟨a,b⟩:=tight g mg tg;exact eK fun c=>Bk ⟨g,mg,a,b,c⟩
 have hw:aP f.1 (aG (cg v u) f.1)=0:=CJ _ _;have hz:aG (cg v u) f.1≠o3:=fun e=>by
  have hd:cg v u≠o3:=fun e=>hne<|Dy e
  have h0:aP f.1 (cg v u)=0:=by rw[val_sub,tu,tv];grind
  have:=par hd e;rw[pG] at h0;rw[h0] at this;refine hf (this.trans<|vI ?_ ?_ ?_)<;>simp only[ik]<;>grind
 have hm:Mem L (tE u v<|1/2):=fun g mg=>by
  rw[gW];have:=vu.1 g mg;have:=vv.1 g mg
  grind
 obtain⟨e,e0,he⟩:=room hm (w:=aG (cg v u) f.1) fun g mg tg=>by
  rw[QU hf (apo g mg tg) hw];exact j6
 have hq:=he e (jQ e0) j6;obtain⟨p,p1,p2,p3⟩:=B2 hb hq<|aG (cg v u) f.1
 have tp:=p3 f mf (by rw[Dw,hw,gW,tu,tv];grind);have mp:=(hv p).2 ⟨p1,tp⟩;have ho:0<=qy f.1 u v p:=by
  by_cases h1:p=u
  ·rw[h1,K9];exact j6
  ·by_cases h2:p=v
   ·rw[h2,wI];exact j6
   ·exact jQ<|P3 p mp h1 h2
 have hpos:=kC e0<|lD hz
 have e1:aP (aG (cg v u) f.1) p-aP (aG (cg v u) f.1) (tE u v<|1/2)= -qy f.1 u v p:=by
  unfold qy tE aP aG cg j4 ik;grind
 rw[wY,je] at p2
 grind
theorem three{L:att H3}(hb:zQ L){q:Q3}(hq:Mem L q){f:H3}(mf:f∈L)(tf:val f q=0)(hf:f.1≠o3)(ht:∀g∈L,val g q=0->aG f.1 g.1=o3){l:att Q3}(hl:∀p,rG L p->val f p=0->p∈l):3<=l.length:=by
 have key:∀w,w≠o3->aP f.1 w=0->∃p∈l,aP w q<aP w p:=fun w w0 hw=>by
  obtain⟨e,e0,he⟩:=room hq (w:=w) fun g mg tg=>by rw[QU hf (ht g mg tg) hw];exact j6
  obtain⟨p,p1,p2,p3⟩:=B2 hb (he e (jQ e0) j6) w;refine⟨p,hl p p1 (p3 f mf (by rw[Dw,hw,tf];grind)),?_⟩;rw[wY,je] at p2;have:=kC e0<|lD w0
  grind
 have neg:∀w:Q3,w≠o3->ik w (-1)≠o3:=fun w h e=>h (by
  have e1:=congrArg Prod.fst e;have e2:=congrArg (fun x=>x.2.1) e;have e3:=congrArg (fun x=>x.2.2) e;simp only[ik,o3] at e1 e2 e3;exact vI (by grind) (by grind) (by grind))
 have both:∀w,w≠o3->aP f.1 w=0->∃p∈l,∃r∈l,aP w p≠aP w r:=fun w w0 hw=>by
  obtain⟨p,mp,hp⟩:=key w w0 hw;obtain⟨r,mr,hr⟩:=key (ik w<| -1) (neg w w0) (by rw[je,hw];grind);rw[rN,rN] at hr;exact⟨p,mp,r,mr,by grind⟩
 match l,both with
 |[],both=>
  obtain⟨d,d0,d1⟩:=tX f.1;obtain⟨p,mp,_⟩:=both d d0 d1;cases mp
 |[a],both=>
  obtain⟨d,d0,d1⟩:=tX f.1;obtain⟨p,mp,r,mr,h⟩:=both d d0 d1;rw[cr.1 mp,cr.1 mr] at h;exact absurd rfl h
 |[a,b],both=>
  obtain⟨d,d0,d1,d2⟩:=two (N:=[f.1]) (fun u mu w mw=>by rw[cr.1 mu,cr.1 mw];exact CL)<|cg b a
  obtain⟨p,mp,r,mr,h⟩:=both d d0 (d1 _ (by simp));rw[pG,Fc] at d2;have:∀x∈[a,b],aP d x=aP d a:=fun x mx=>by
   rcases aY.1 mx with e|mx
   ·rw[e]
   ·rw[cr.1 mx];grind
  rw[this p mp,this r mr] at h;exact absurd rfl h
 |_::_::_::_,_=>simp
theorem SG{M:att H3}{h:H3}{p:Q3}(hp:rG M p)(hv:val h p<=0):rG (h::M) p:=
 ⟨fun k mk=>(aY.1 mk).elim (fun e=>by rw[e];exact hv)<|hp.1 k,fun d hd=>hp.2 d fun k mk=>hd k<|cW _ mk⟩
theorem XL{h:H3}{u v:Q3}(hz:val h (tE u v t)=0)(ho:Lb (val h u) (val h v)=true):tE u v t=Dc h u v:=by
 have h1:=uH.1 ho;have hn:val h u-val h v≠0:=by grind
 have e:val h u/(val h u-val h v)*(val h u-val h v)=val h u:=wV hn;unfold Dc;rw[gW] at hz
 congr 1
 generalize val h u/(val h u-val h v)=r at*
 have:(t-r)*(val h u-val h v)=0:=by grind
 rcases lq.1 this with g|g
 ·grind
 ·exact absurd g hn
theorem ab1(u v:Q3)(t:Rat):tE u v t=tE v u (1-t):=by unfold tE j4 ik cg;refine lW ?_ ?_ ?_<;>dsimp only<;>grind
theorem Tx(x y:Rat):Lb x y=Lb y x:=by
 rw[HY,uH,uH];grind
theorem SI{M:att H3}(hb:zQ M){h:H3}{p:Q3}(hp:rG (h::M) p):rG M p\/(val h p=0/\∃u v,rG M u/\rG M v/\Lb (val h u) (val h v)=true/\p=Dc h u v/\(∀k∈M,val k p=0->val k u=0/\val k v=0)/\∃f∈M,∃g∈M,val f p=0/\val g p=0/\aG f.1 g.1≠o3):=by
 by_cases hv:rG M p
 ·exact .inl hv
 right;have hm:Mem M p:=fun k mk=>hp.1 k<|cW _ mk
 have hz:val h p=0:=eK fun c=>hv ⟨hm,fun d hd=>hp.2 d fun k mk tk=>by
  rcases aY.1 mk with e|mk
  ·subst e;exact absurd tk c
  ·exact hd k mk tk⟩
 have:∃f∈M,∃g∈M,val f p=0/\val g p=0/\aG f.1 g.1≠o3:=by
  refine eK fun Bk=>?_
  obtain⟨d,d0,d1,d2⟩:=two (N:=(M.filter fun k=>decide<|val k p=0).map Prod.fst) (fun u mu w mw=>by
   obtain⟨f,mf,rfl⟩:=bT.1 mu;obtain⟨g,mg,rfl⟩:=bT.1 mw;obtain⟨mf,tf⟩:=pW.1 mf;obtain⟨mg,tg⟩:=pW.1 mg;exact eK fun c=>Bk ⟨f,mf,g,mg,aZ tf,aZ tg,c⟩) h.1
  refine d0<|hp.2 d fun k mk tk=>?_
  rcases aY.1 mk with e|mk
  ·subst e;exact d2
  ·exact d1 _<|bT.2 ⟨k,pW.2 ⟨mk,aW tk⟩,rfl⟩
 refine⟨hz,?_⟩;obtain⟨f,mf,g,mg,tf,tg,hc⟩:=this;obtain⟨u,v,t,vu,vv,t0,t1,e,ht,hne⟩:=arz hb hm hv mf mg tf tg hc;have hz':=hz;rw[e,gW] at hz';have both:val h u≠0\/val h v≠0:=by
  refine eK fun c=>hne<|Dy<|hp.2 _ fun k mk tk=>?_
  rw[val_sub];rcases aY.1 mk with e|mk
  ·subst e;grind
  ·obtain⟨a,b⟩:=ht k mk tk;rw[a,b];grind
 have ho:Lb (val h u) (val h v)=true:=by
  rw[uH];have hu:val h u≠0:=fun c=>by
   rcases lq.1 (show t*val h v=0 by rw[c] at hz';grind) with g|g<;>grind
  by_cases h1:val h u<0
  ·left;refine⟨h1,eK fun c=>?_⟩;have:=ft (show 0<=t by grind) (show 0<= -val h v by grind);have:=kC (show 0<1-t by grind) (show 0< -val h u by grind)
   grind
  ·right;refine⟨by grind,eK fun c=>?_⟩;have:=ft (show 0<=t by grind) (show 0<=val h v by grind);have:=kC (show 0<1-t by grind) (show 0<val h u by grind)
   grind
 exact⟨u,v,vu,vv,ho,by rw[e];exact XL (by rw[<-e];exact hz) ho,ht,f,mf,g,mg,tf,tg,hc⟩
theorem adC{h:H3}{u v:Q3}(ho:Lb (val h u) (val h v)=true):Dc h u v=Dc h v u:=by
 have:val h (Dc h u v)=0:=QE ho;unfold Dc at this⊢;rw[ab1] at this⊢;exact XL this (by rw[Tx];exact ho)
theorem BQ{M:att H3}(hb:zQ M){f:H3}(mf:f∈M)(hf:f.1≠o3){l:att Q3}(hl:Kl f.1 l)(h3:3<=l.length)(hv:∀p,p∈l↔rG M p/\val f p=0)(h:H3)(p:Q3):p∈kY h l↔rG (h::M) p/\val f p=0:=by
 unfold kY;rw[Ly];constructor
 ·rintro⟨s,hs,hx⟩;obtain⟨a1,a2,a3,a4⟩:=vS hl h3 hs;rcases SS hx with⟨e,hle⟩|⟨ho,e⟩
  ·obtain⟨b1,b2⟩:=(hv s.1).1 a1;rw[e] at hle⊢;exact⟨SG b1 hle,b2⟩
  ·obtain⟨g,mg,g1,g2,hc⟩:=Zf hb mf hf hl h3 hv hs;obtain⟨b1,b2⟩:=(hv s.1).1 a1;obtain⟨c1,c2⟩:=(hv s.2).1 a2;have t:=M0 ho;have hz:=QE ho;have lin:∀k:H3,val k p=(1-val h s.1/(val h s.1-val h s.2))*val k s.1+val h s.1/(val h s.1-val h s.2)*val k s.2:=fun k=>by rw[e];exact gW _ _ _ _
   rw[<-e] at hz
   generalize val h s.1/(val h s.1-val h s.2)=r at*
   have tf:val f p=0:=by rw[lin,b2,c2];grind
   have tg:val g p=0:=by rw[lin,g1,g2];grind
   refine⟨aeP (f:=f) (g:=g) (h:=h) (fun k mk=>?_) (cW _ mf) (cW _ mg) gJ tf tg hz fun hd=>?_,tf⟩
   ·rcases aY.1 mk with e|mk
    ·subst e;rw[hz];exact j6
    ·rw[lin];have:=ft (show 0<=1-r by grind) (show 0<= -val k s.1 by have:=b1.1 k mk;grind);have:=ft (show 0<=r by grind) (show 0<= -val k s.2 by have:=c1.1 k mk;grind)
     grind
   ·obtain⟨x,hx⟩:=along hc (d:=cg s.2 s.1) (by rw[val_sub,b2,c2];grind) (by rw[val_sub,g1,g2];grind);have:=val_sub h s.1 s.2;rw[hx,je,hd] at this;have:=uH.1 ho
    grind
 ·rintro⟨hp,tf⟩;rcases SI hb hp with h1|⟨hz,u,v,vu,vv,ho,e,ht,g,mg,k,mk,tg,tk,hc⟩
  ·have hm:=(hv p).2 ⟨h1,tf⟩;rw[<-Pu l] at hm;obtain⟨s,hs,e⟩:=bT.1 hm;refine⟨s,hs,?_⟩;unfold y5;rw[e,aW<|hp.1 h gJ];simp
  ·obtain⟨g,mg,tg,hc⟩:∃g∈M,val g p=0/\aG f.1 g.1≠o3:=by
    rcases indep hf hc with x|x
    ·exact⟨g,mg,tg,x⟩
    ·exact⟨k,mk,tk,x⟩
   obtain⟨fu,fv⟩:=ht f mf tf;obtain⟨gu,gv⟩:=ht g mg tg;have mu:=(hv u).2 ⟨vu,fu⟩;have mv:=(hv v).2 ⟨vv,fv⟩;have hne:u≠v:=fun c=>by rw[c] at ho;have:=uH.1 ho;grind
   obtain⟨x,hx⟩:=along hc (d:=cg v u) (by rw[val_sub,fu,fv];grind) (by rw[val_sub,gu,gv];grind);have Vg:∀y,val f y=0->qy f.1 u v y= -(x*aP f.1 f.1*val g y):=fun y ty=>by
    have h1:=val_sub f u y;have h2:=val_sub g u y;rw[fu,ty] at h1;rw[gu] at h2;unfold qy;rw[hx];have e1:aP f.1 (aG (ik (aG f.1 g.1) x)<|cg y u)=x*(aP f.1 g.1*aP f.1 (cg y u)-aP f.1 f.1*aP g.1 (cg y u)):=by
     unfold aP aG ik;grind
    rw[e1,h1,h2];grind
   rcases adj hl mu mv hne (fun y my z mz h1 h2=>by
    obtain⟨vy,ty⟩:=(hv y).1 my;obtain⟨vz,tz⟩:=(hv z).1 mz;rw[Vg y ty] at h1;rw[Vg z tz] at h2;have a:=vy.1 g mg;have b:=vz.1 g mg;by_cases c:0<=x*aP f.1 f.1
    ·have:=ft c (show 0<= -val g y by grind)
     grind
    ·have:=ft (show 0<= -(x*aP f.1 f.1) by grind) (show 0<= -val g z by grind)
     grind) with hs|hs
   ·refine⟨_,hs,?_⟩;unfold y5;rw[ho,e];simp
   ·refine⟨_,hs,?_⟩;unfold y5;dsimp only;rw[Tx,ho,e,adC ho];simp
theorem aj2{L:att H3}{f:H3}(hf:f.1≠o3){l:att Q3}(hw:Wk f.1 l)(hn:l.Nodup)(hv:∀p∈l,rG L p/\val f p=0):Kl f.1 l:=fun a b c s=>by
 have h0:=hw a b c s;have hd:=List.Pairwise.sublist s hn;simp at hd;have ma:=hv a (s.subset (by simp));have mb:=hv b (s.subset (by simp));have mc:=hv c (s.subset (by simp));have:=Xh hf ma.1 mb.1 mc.1 ma.2 mb.2 mc.2 hd.1.1 hd.1.2 hd.2
 grind
theorem G2:((1,0,0):Q3)≠o3:=fun e=>by have:=congrArg Prod.fst e;simp only[o3] at this;grind
theorem EB{M:att H3}{v:Q3}(hv:rG M v){h:Q3}(hz:h≠o3):∃k∈M,val k v=0/\aG h k.1≠o3:=by
 refine eK fun Bk=>?_
 obtain⟨d,d0,d1⟩:=tX h;refine d0<|hv.2 d fun k mk tk=>QU hz ?_ d1
 exact eK fun c=>Bk ⟨k,mk,tk,c⟩
theorem Qe{S:att iK}{M:att H3}(I:nu S M){v:Q3}(hv:rG M v):∃f∈S,v∈f.2:=by
 obtain⟨k,mk,tk,_⟩:=EB hv G2;obtain⟨f,mf,tf⟩:=I.cover v hv.1 ⟨k,mk,tk⟩;exact⟨f,mf,((I.zF f mf).2.2.2 v).2 ⟨hv,tf⟩⟩
theorem afG{S:att iK}{M:att H3}(I:nu S M){h:H3}(hn:∀f∈S,∀p∈f.2,0<=val h p){q:Q3}(hq:Mem M q):0<=val h q:=by
 obtain⟨v,v1,v2,_⟩:=B2 I.bdd hq<|ik h.1<| -1
 obtain⟨f,mf,mv⟩:=Qe I v1;have:=hn f mf v mv;rw[rN,rN] at v2;unfold val at*;grind
theorem abX{S:att iK}{M:att H3}(I:nu S M){h:H3}(hn:∀f∈S,∀p∈f.2,val h p<=0){q:Q3}(hq:Mem M q):val h q<=0:=by
 obtain⟨v,v1,v2,_⟩:=B2 I.bdd hq h.1;obtain⟨f,mf,mv⟩:=Qe I v1;have:=hn f mf v mv;unfold val at*;grind
theorem PI{M:att H3}{h:H3}(hz:h.1≠o3)(ho:∀q,Mem M q->val h q<=0){p:Q3}(hp:Mem M p)(tp:val h p=0):∃k∈M,val k p=0:=by
 refine eK fun Bk=>?_
 obtain⟨e,e0,he⟩:=room hp (w:=h.1) fun k mk tk=>absurd ⟨k,mk,tk⟩ Bk
 have h1:=ho _<|he e (jQ e0) j6
 have:=kC e0<|lD hz
 rw[Dw,tp] at h1
 grind
theorem aeO{M:att H3}(hb:zQ M){h:H3}(ho:∀q,Mem M q->val h q<=0)(p:Q3):rG (h::M) p↔rG M p:=by
 constructor
 ·intro hp;rcases SI hb hp with h1|⟨_,u,v,vu,vv,apr,_⟩
  ·exact h1
  ·have:=ho u vu.1;have:=ho v vv.1;have:=uH.1 apr
   grind
 ·exact fun hp=>SG hp<|ho p hp.1
theorem nu.out{S:att iK}{M:att H3}(I:nu S M){h:H3}(hz:h.1≠o3)(hn:∀a∈h::M,∀b∈h::M,Od a b->a=b)(ho:∀f∈S,∀p∈f.2,val h p<=0):nu S (h::M):=by
 have hall:∀q,Mem M q->val h q<=0:=fun q=>abX I ho
 have Bb:∀q,Mem (h::M) q->Mem M q:=fun q hq k mk=>hq k<|cW _ mk
 obtain⟨o,hi⟩:=I.int;refine⟨fun d hd=>?_,⟨o,fun k mk=>?_⟩,fun k mk=>?_,hn,fun f mf=>?_,I.WH,fun p hp ht=>?_⟩
 ·obtain⟨k,mk,hk⟩:=I.bdd d hd;exact⟨k,cW _ mk,hk⟩
 ·rcases aY.1 mk with e|mk
  ·subst e;have h1:=hall o fun k mk=>jQ<|hi k mk
   refine eK fun c=>?_
   obtain⟨k',mk',tk'⟩:=PI hz hall (p:=o) (fun k mk=>jQ<|hi k mk) (by grind);have:=hi k' mk'
   grind
  ·exact hi k mk
 ·rcases aY.1 mk with e|mk
  ·subst e;exact hz
  ·exact I.nz k mk
 ·obtain⟨f1,f2,f3,f4⟩:=I.zF f mf;exact⟨cW _ f1,f2,f3,fun p=>by rw[aeO I.bdd hall];exact f4 p⟩
 ·obtain⟨k,mk,tk⟩:=ht;rcases aY.1 mk with e|mk
  ·subst e;exact I.cover p (Bb p hp)<|PI hz hall (Bb p hp) tk
  ·exact I.cover p (Bb p hp) ⟨k,mk,tk⟩
theorem toward{a b:Rat}(ha:a<0):∃t:Rat,0<t/\t<1/\(1-t)*a+t*b<0:=by
 by_cases hb:b<=0
 ·exact⟨1/2,by grind,by grind,by grind⟩
 ·have hn:b-a≠0:=by grind
  have e: -a/(b-a)*(b-a)= -a:=wV hn;have hp:0< -a/(b-a):=by rw[Cq];exact kC (by grind) (Cp.2 (by grind))
  generalize -a/(b-a)=r at*
  have h1:r<1:=eK fun c=>by
   have:=ft (show 0<=r-1 by grind) (show 0<=b-a by grind)
   grind
  exact⟨r*(1/2),by grind,by grind,by grind⟩
theorem alu{M:att H3}{o p:Q3}(hi:∀k∈M,val k o<0)(hp:Mem M p){h:H3}(ha:val h p<0):∃q,(∀k∈M,val k q<0)/\val h q<0:=by
 obtain⟨t,t0,t1,ht⟩:=toward (b:=val h o) ha;refine⟨tE p o t,fun k mk=>?_,by rw[gW];exact ht⟩;rw[gW];have a:=ft (show 0<=1-t by grind) (show 0<= -val k p by have:=hp k mk;grind);have b:=kC t0 (show 0< -val k o by have:=hi k mk;grind)
 grind
theorem SJ(h:H3)(p:Q3):val (ik h.1<| -1,-h.2) p= -val h p:=by unfold val;rw[rN];grind
theorem als{M:att H3}{o p:Q3}(hi:∀k∈M,val k o<0)(hp:Mem M p){h:H3}(ha:0<val h p):∃q,(∀k∈M,val k q<0)/\0<val h q:=by
 obtain⟨q,q1,q2⟩:=alu hi hp (h:=(ik h.1<| -1,-h.2)) (by rw[SJ];grind);rw[SJ] at q2;exact⟨q,q1,by grind⟩
theorem aka{S:att iK}{M:att H3}(I:nu S M){f:iK}(mf:f∈S):∃z,Mem M z/\val f.1 z=0/\∀g∈M,val g z=0->aG f.1.1 g.1=o3:=by
 obtain⟨f1,f2,f3,f4⟩:=I.zF f mf
 match hl:f.2,f3 with
 |a::b::c::l,_=>
  have ho:=f2 a b c (by rw[hl];exact((vg l).cons_cons c|>.cons_cons b).cons_cons a);obtain⟨va,ta⟩:=(f4 a).1 (by rw[hl];simp);obtain⟨vb,tb⟩:=(f4 b).1 (by rw[hl];simp);obtain⟨vc,tc⟩:=(f4 c).1 (by rw[hl];simp);refine⟨tE (tE a b<|1/2) c<|1/3,fun k mk=>?_,?_,fun g mg tg=>?_⟩
  ·rw[gW,gW];have:=va.1 k mk;have:=vb.1 k mk;have:=vc.1 k mk
   grind
  ·rw[gW,gW,ta,tb,tc];grind
  ·rw[gW,gW] at tg;have:=va.1 g mg;have:=vb.1 g mg;have:=vc.1 g mg;have ga:val g a=0:=by grind
   have gb:val g b=0:=by grind
   have gc:val g c=0:=by grind
   refine eK fun hc=>?_
   obtain⟨s,hs⟩:=along hc (d:=cg b a) (by rw[val_sub,ta,tb];grind) (by rw[val_sub,ga,gb];grind);obtain⟨r,hr⟩:=along hc (d:=cg c a) (by rw[val_sub,ta,tc];grind) (by rw[val_sub,ga,gc];grind);unfold qy at ho;rw[hs,hr] at ho;have:aP f.1.1 (aG (ik (aG f.1.1 g.1) s)<|ik (aG f.1.1 g.1) r)=0:=by unfold aP aG ik;grind
   grind
def C7(h:H3)(S:att iK):att iK:=S.filterMap fun f=>bif decide (2<(kY h f.2).length) then some (f.1,kY h f.2) else none
theorem Qg{h:H3}{S:att iK}{g:iK}(hg:g∈C7 h S):∃f∈S,2<(kY h f.2).length/\g=(f.1,kY h f.2):=by
 obtain⟨f,mf,e⟩:=List.mem_filterMap.1 hg;cases hd:decide (2<(kY h f.2).length) with
 |false=>rw[hd] at e;cases e
 |true=>rw[hd] at e;exact⟨f,mf,aZ hd,(eQ e).symm⟩
theorem adG{h:H3}{S:att iK}{f:iK}(mf:f∈S)(hl:2<(kY h f.2).length):(f.1,kY h f.2)∈C7 h S:=
 List.mem_filterMap.2 ⟨f,mf,by rw[aW hl];rfl⟩
theorem nu.BQ{S:att iK}{M:att H3}(I:nu S M)(h:H3):∀f∈S,∀p,p∈kY h f.2↔rG (h::M) p/\val f.1 p=0:=fun f mf p=>by
 obtain⟨g1,g2,g3,g4⟩:=I.zF f mf;exact Trn.BQ I.bdd g1 (I.nz _ g1) g2 g3 g4 h p
theorem nu.cut{S:att iK}{M:att H3}(I:nu S M){h:H3}(hz:h.1≠o3){f0 f1:iK}{p0 p1:Q3}(m0:f0∈S)(q0:p0∈f0.2)(h0:val h p0<0)(m1:f1∈S)(q1:p1∈f1.2)(h1:0<val h p1):
  (∃o,(∀k∈M,val k o<0)/\val h o<0)/\(∀p,((∃f∈S,p∈kY h f.2)/\val h p=0)↔rG (h::M) p/\val h p=0)/\∀l:att Q3,(∀p,rG (h::M) p->val h p=0->p∈l)->3<=l.length:=by
 obtain⟨o,hi⟩:=I.int;have v0:=(((I.zF f0 m0).2.2.2 p0).1 q0).1;have v1:=(((I.zF f1 m1).2.2.2 p1).1 q1).1;have Bb:∀q,Mem (h::M) q->Mem M q:=fun q hq k mk=>hq k<|cW _ mk
 have hb:zQ (h::M):=fun d hd=>by
  obtain⟨k,mk,hk⟩:=I.bdd d hd;exact⟨k,cW _ mk,hk⟩
 obtain⟨o1,i1,n1⟩:=alu hi v0.1 h0;obtain⟨o2,i2,n2⟩:=als hi v1.1 h1;have cm:=I.BQ h;refine⟨⟨o1,i1,n1⟩,fun p=>?_,fun l hl=>?_⟩
 ·constructor
  ·rintro⟨⟨f,mf,mp⟩,tp⟩;exact⟨((cm f mf p).1 mp).1,tp⟩
  ·rintro⟨vp,tp⟩;refine⟨?_,tp⟩;obtain⟨k,mk,tk,hc⟩:=EB vp hz;rcases aY.1 mk with e|mk
   ·subst e;exact absurd CL hc
   ·obtain⟨f,mf,tf⟩:=I.cover p (Bb p vp.1) ⟨k,mk,tk⟩;exact⟨f,mf,(cm f mf p).2 ⟨vp,tf⟩⟩
 ·have ho:Lb (val h o1) (val h o2)=true:=uH.2 (.inl ⟨n1,n2⟩);have t:=M0 ho;have hv:=QE ho;have neg:∀k∈M,val k (Dc h o1 o2)<0:=fun k mk=>by
   unfold Dc;rw[gW]
   generalize val h o1/(val h o1-val h o2)=r at t
   have:=kC (show 0<1-r by grind) (show 0< -val k o1 by have:=i1 k mk;grind);have:=kC (show 0<r by grind) (show 0< -val k o2 by have:=i2 k mk;grind)
   grind
  refine three hb (q:=Dc h o1 o2) (fun k mk=>?_) (f:=h) gJ hv hz (fun g mg tg=>?_) hl
  ·rcases aY.1 mk with e|mk
   ·subst e;rw[hv];exact j6
   ·exact jQ<|neg k mk
  ·rcases aY.1 mg with e|mg
   ·subst e;exact CL
   ·have:=neg g mg;grind
theorem nu.clip{S:att iK}{M:att H3}(I:nu S M){h:H3}(hz:h.1≠o3)(hn:∀a∈h::M,∀b∈h::M,Od a b->a=b){f0 f1:iK}{p0 p1:Q3}(m0:f0∈S)(q0:p0∈f0.2)(h0:val h p0<0)(m1:f1∈S)(q1:p1∈f1.2)(h1:0<val h p1)
  {l:att Q3}(hl:Kl h.1 l)(hm:∀p,p∈l↔(∃f∈S,p∈kY h f.2)/\val h p=0):nu (C7 h S++[(h,l)]) (h::M):=by
 obtain⟨⟨o1,i1,n1⟩,c1,c2⟩:=I.cut hz m0 q0 h0 m1 q1 h1;have v1:=(((I.zF f1 m1).2.2.2 p1).1 q1).1;have Nx:h∉M:=fun c=>by have:=v1.1 h c;grind
 have Bb:∀q,Mem (h::M) q->Mem M q:=fun q hq k mk=>hq k<|cW _ mk
 have hb:zQ (h::M):=fun d hd=>by
  obtain⟨k,mk,hk⟩:=I.bdd d hd;exact⟨k,cW _ mk,hk⟩
 have cm:=I.BQ h;have lm:∀p,p∈l↔rG (h::M) p/\val h p=0:=fun p=>by rw[hm,c1]
 have l3:3<=l.length:=c2 l fun p vp tp=>(lm p).2 ⟨vp,tp⟩
 refine⟨hb,⟨o1,fun k mk=>?_⟩,fun k mk=>?_,hn,fun g mg=>?_,?_,fun p hp ht=>?_⟩
 ·rcases aY.1 mk with e|mk
  ·subst e;exact n1
  ·exact i1 k mk
 ·rcases aY.1 mk with e|mk
  ·subst e;exact hz
  ·exact I.nz k mk
 ·rcases bN.1 mg with mg|mg
  ·obtain⟨f,mf,hlen,e⟩:=Qg mg;subst e;obtain⟨g1,g2,g3,g4⟩:=I.zF f mf;exact⟨cW _ g1,aj2 (I.nz _ g1) (agX g2.wk) (WO g2 g3) fun p mp=>(cm f mf p).1 mp,hlen,cm f mf⟩
  ·rw[cr.1 mg];exact⟨gJ,hl,l3,lm⟩
 ·refine Cy.2 ⟨?_,LM _ _,fun g mg k mk=>?_⟩
  ·unfold C7;refine List.pairwise_filterMap.2<|I.WH.imp fun{a b} Oi x ex y ey=>?_
   cases ha:decide (2<(kY h a.2).length) with
   |false=>rw[ha] at ex;cases ex
   |true=>
    cases hb:decide (2<(kY h b.2).length) with
    |false=>rw[hb] at ey;cases ey
    |true=>
     rw[ha] at ex;rw[hb] at ey;rw[<-eQ ex,<-eQ ey];exact Oi
  ·obtain⟨f,mf,_,e⟩:=Qg mg;rw[e,cr.1 mk];exact fun c=>Nx (by have:=(I.zF f mf).1;rwa [show f.1=h from c] at this)
 ·by_cases tp:val h p=0
  ·exact⟨(h,l),by simp,tp⟩
  ·obtain⟨k,mk,tk⟩:=ht;rcases aY.1 mk with e|mk
   ·subst e;exact absurd tk tp
   ·obtain⟨f,mf,tf⟩:=I.cover p (Bb p hp) ⟨k,mk,tk⟩;by_cases hlen:2<(kY h f.2).length
    ·exact⟨_,pd _<|adG mf hlen,tf⟩
    ·exfalso;have zB:val h p<0:=by have:=hp h gJ;grind
     obtain⟨z,mz,tz,hc⟩:=aka I mf;obtain⟨t,t0,t1,hq⟩:=toward (b:=val h z) zB;have g1:=(I.zF f mf).1;refine hlen (three hb (q:=tE p z t) (fun k mk=>?_) (f:=f.1) (cW _ g1) (by rw[gW,tf,tz];grind) (I.nz _ g1) (fun g mg tg=>?_) fun x vx tx=>(cm f mf x).2 ⟨vx,tx⟩)
     ·rw[gW];rcases aY.1 mk with e|mk
      ·subst e;exact jQ hq
      ·have:=ft (show 0<=1-t by grind) (show 0<= -val k p by have:=hp k (cW _ mk);grind);have:=ft (show 0<=t by grind) (show 0<= -val k z by have:=mz k mk;grind)
       grind
     ·rw[gW] at tg;rcases aY.1 mg with e|mg
      ·subst e;grind
      ·refine hc g mg ?_;have a:=ft (show 0<=1-t by grind) (show 0<= -val g p by have:=hp g (cW _ mg);grind);have b:=ft (show 0<=t by grind) (show 0<= -val g z by have:=mz g mg;grind);have c:t*val g z=0:=by grind
       rcases lq.1 c with x|x<;>grind
theorem nu.empty{S:att iK}{M:att H3}(I:nu S M){h:H3}(hn:∀f∈S,∀p∈f.2,0<=val h p): ¬ ∃o,∀k∈h::M,val k o<0:=fun⟨o,ho⟩=>by
 have:=afG I hn (q:=o) fun k mk=>jQ<|ho k<|cW _ mk
 have:=ho h gJ
 grind
theorem ahl{w:Q3}{s:Rat}(h:w≠o3)(hs:s≠0):ik w s≠o3:=fun e=>h (by
 have e1:=congrArg Prod.fst e;have e2:=congrArg (fun x=>x.2.1) e;have e3:=congrArg (fun x=>x.2.2) e;simp only[ik,o3] at e1 e2 e3;have z:∀x:Rat,x*s=0->x=0:=fun x hx=>by
  rcases lq.1 hx with g|g
  ·exact g
  ·exact absurd g hs
 exact vI (z _ e1) (z _ e2)<|z _ e3)
theorem aiv(s:Rat):ik o3 s=o3:=vI (by simp only[ik,o3];grind) (by simp only[ik,o3];grind) (by simp only[ik,o3];grind)
theorem ae9(w:Q3):ik w 0=o3:=vI (by simp only[ik];grind) (by simp only[ik];grind) (by simp only[ik];grind)
theorem adQ{L:att H3}(hp:∃f∈L,∃g∈L,aG f.1 g.1≠o3)(hc:∀f∈L,∀g∈L,aG f.1 g.1≠o3->∃h∈L,0<aP h.1 (aG f.1 g.1)):∀(n:Nat) (d:Q3),(L.filter fun h=> !decide (aP h.1 d=0)).length<=n->d≠o3->(∀h∈L,aP h.1 d<=0)->False:=by
 intro n
 induction n with
 |zero=>
  intro d hn hd hle;have h0:(L.filter fun h=> !decide (aP h.1 d=0))=[]:=pZ (by omega);have ht:∀h∈L,aP h.1 d=0:=fun h mh=>eK fun e=>by
   have:h∈(L.filter fun h=> !decide (aP h.1 d=0)):=pW.2 ⟨mh,by simp[e]⟩;rw[h0] at this;cases this
  obtain⟨f,mf,g,mg,hfg⟩:=hp;obtain⟨s,hs⟩:=along hfg (ht f mf)<|ht g mg
  obtain⟨h,mh,hh⟩:=hc f mf g mg hfg;have:=ht h mh;rw[hs,je] at this;rcases lq.1 this with e|e
  ·subst e;exact hd<|hs.trans<|ae9 _
  ·grind
 |succ n ih=>
  intro d hn hd hle;by_cases hA:∃f∈L,∃g∈L,aP f.1 d=0/\aP g.1 d=0/\aG f.1 g.1≠o3
  ·obtain⟨f,mf,g,mg,tf,tg,hfg⟩:=hA;obtain⟨s,hs⟩:=along hfg tf tg;have Wf:s≠0:=fun e=>hd (by rw[hs,e];exact ae9 _)
   by_cases h0:0<s
   ·obtain⟨h,mh,hh⟩:=hc f mf g mg hfg;have:=hle h mh;rw[hs,je] at this;have:=kC h0 hh
    grind
   ·obtain⟨h,mh,hh⟩:=hc g mg f mf (by rw[wu];exact ahl hfg (by grind));have:=hle h mh;rw[hs,je] at this;rw[wu,je] at hh;have:=kC (show 0< -s by grind) hh
    grind
  ·obtain⟨e,e0,e1,e2⟩:=two (N:=(L.filter fun k=>decide<|aP k.1 d=0).map Prod.fst) (fun u mu w mw=>by
    obtain⟨f,mf,rfl⟩:=bT.1 mu;obtain⟨g,mg,rfl⟩:=bT.1 mw;obtain⟨mf,tf⟩:=pW.1 mf;obtain⟨mg,tg⟩:=pW.1 mg;exact eK fun c=>hA ⟨f,mf,g,mg,aZ tf,aZ tg,c⟩) d
   have go:∀e:Q3,e≠o3->(∀k∈L,aP k.1 d=0->aP k.1 e=0)->aP d e=0->(∃k∈L,0<aP k.1 e)->False:=by
    intro e e0 et ed hk;obtain⟨h,mh,ph,hm⟩:=least (fun h:H3=>0<aP h.1 e) (fun h=> -aP h.1 d/aP h.1 e) L hk;have key:∀k:H3,0<aP k.1 e-> -aP k.1 d/aP k.1 e*aP k.1 e= -aP k.1 d:=fun k hk=>wV (by grind)
    have hne:aP h.1 d≠0:=fun c=>by have:=et h mh c;grind
    have hr:0<= -aP h.1 d/aP h.1 e:=by
     rw[Cq];exact ft (by have:=hle h mh;grind)<|jQ<|Cp.2 ph
    have kh:=key h ph
    generalize hR: -aP h.1 d/aP h.1 e=r at*
    have:=filter_lt (L:=L) (p:=fun h=> !decide (aP h.1 d=0)) (q:=fun h=> !decide (aP h.1 (j4 d<|ik e r)=0)) (x:=h) (fun y my hy=>by
     simp at hy⊢;exact fun c=>hy (by rw[wY,je,c,et y my c];grind)) mh (by simp[hne]) (by
     have:aP h.1 (j4 d<|ik e r)=0:=by rw[wY,je];grind
     simp[this])
    refine ih (j4 d<|ik e r) (by omega) (fun c=>?_) fun k mk=>?_
    ·have h1:aP d (j4 d<|ik e r)=0:=by rw[c,Qa]
     rw[wY,je,ed] at h1;have:=lD hd
     grind
    ·rw[wY,je];by_cases g:0<aP k.1 e
     ·have h1:=hm k mk g;have h2:=key k g;have h3:=LS h1<|jQ g
      grind
     ·have:=ft hr (show 0<= -aP k.1 e by grind);have:=hle k mk
      grind
   have et:∀k∈L,aP k.1 d=0->aP k.1 e=0:=fun k mk tk=>e1 _<|bT.2 ⟨k,pW.2 ⟨mk,aW tk⟩,rfl⟩
   by_cases hx:∃k∈L,0<aP k.1 e
   ·exact go e e0 et e2 hx
   ·by_cases hy:∃k∈L,0<aP k.1 (ik e<| -1)
    ·exact go _ (ahl e0 (by grind)) (fun k mk tk=>by rw[je,et k mk tk];grind) (by rw[je,e2];grind) hy
    ·have hz:∀k∈L,aP k.1 e=0:=fun k mk=>by
      have a: ¬0<aP k.1 e:=fun c=>hx ⟨k,mk,c⟩
      have b: ¬0<aP k.1 (ik e<| -1):=fun c=>hy ⟨k,mk,c⟩
      rw[je] at b
      grind
     obtain⟨f,mf,g,mg,hfg⟩:=hp;obtain⟨s,hs⟩:=along hfg (hz f mf)<|hz g mg
     obtain⟨h,mh,hh⟩:=hc f mf g mg hfg;have:=hz h mh;rw[hs,je] at this;rcases lq.1 this with c|c
     ·subst c;exact e0<|hs.trans<|ae9 _
     ·grind
theorem ag1{L:att H3}:zQ L↔(∃f∈L,∃g∈L,aG f.1 g.1≠o3)/\∀f∈L,∀g∈L,aG f.1 g.1≠o3->∃h∈L,0<aP h.1 (aG f.1 g.1):=by
 constructor
 ·refine fun hb=>⟨eK fun Bk=>?_,fun f mf g mg hfg=>hb _ hfg⟩
  obtain⟨d,d0,d1,_⟩:=two (N:=L.map Prod.fst) (fun u mu w mw=>by
   obtain⟨f,mf,rfl⟩:=bT.1 mu;obtain⟨g,mg,rfl⟩:=bT.1 mw;exact eK fun c=>Bk ⟨f,mf,g,mg,c⟩) o3
  obtain⟨h,mh,hh⟩:=hb d d0;have:=d1 _<|bT.2 ⟨h,mh,rfl⟩
  grind
 ·rintro⟨hp,hc⟩ d hd;refine eK fun Bk=>adQ hp hc _ d (bp _) hd fun h mh=>?_
  exact eK fun c=>Bk ⟨h,mh,by grind⟩
def oS(a b c:Q3):Rat:=aP (aG a b) c
def sC(a b c:H3):Q3:=ik (j4 (j4 (ik (aG b.1 c.1) a.2)<|ik (aG c.1 a.1) b.2)<|ik (aG a.1 b.1) c.2) (oS a.1 b.1 c.1)⁻¹
theorem vX{a b c:H3}(hd:oS a.1 b.1 c.1≠0):val a (sC a b c)=0/\val b (sC a b c)=0/\val c (sC a b c)=0:=by
 have hi:=LB _ hd;unfold sC
 generalize (oS a.1 b.1 c.1)⁻¹ =i at hi
 unfold oS at hi;refine⟨?_,?_,?_⟩
 ·have:val a (ik (j4 (j4 (ik (aG b.1 c.1) a.2)<|ik (aG c.1 a.1) b.2)<|ik (aG a.1 b.1) c.2) i)=a.2*(aP (aG a.1 b.1) c.1*i)-a.2:=by
   unfold val aP ik j4 aG;grind
  rw[this,hi];grind
 ·have:val b (ik (j4 (j4 (ik (aG b.1 c.1) a.2)<|ik (aG c.1 a.1) b.2)<|ik (aG a.1 b.1) c.2) i)=b.2*(aP (aG a.1 b.1) c.1*i)-b.2:=by
   unfold val aP ik j4 aG;grind
  rw[this,hi];grind
 ·have:val c (ik (j4 (j4 (ik (aG b.1 c.1) a.2)<|ik (aG c.1 a.1) b.2)<|ik (aG a.1 b.1) c.2) i)=c.2*(aP (aG a.1 b.1) c.1*i)-c.2:=by
   unfold val aP ik j4 aG;grind
  rw[this,hi];grind
theorem Ej{a b c d:Q3}(hd:oS a b c≠0)(h1:aP a d=0)(h2:aP b d=0)(h3:aP c d=0):d=o3:=by
 have hc:aG a b≠o3:=fun e=>hd (by unfold oS;rw[e,pG,Qa])
 obtain⟨s,rfl⟩:=along hc h1 h2;rw[je] at h3;rcases lq.1 h3 with e|e
 ·subst e;exact ae9 _
 ·exact absurd (by unfold oS;rw[pG];exact e) hd
theorem Dv{L:att H3}{p:Q3}:rG L p↔Mem L p/\∃a∈L,∃b∈L,∃c∈L,oS a.1 b.1 c.1≠0/\p=sC a b c:=by
 constructor
 ·intro hv;refine⟨hv.1,?_⟩;obtain⟨a,ma,ta,ha⟩:=EB hv G2;have a0:a.1≠o3:=fun e=>ha (by rw[e];exact vI (by simp only[aG,o3];grind) (by simp only[aG,o3];grind) (by simp only[aG,o3];grind))
  obtain⟨b,mb,tb,hb⟩:=EB hv a0;have:∃c∈L,val c p=0/\oS a.1 b.1 c.1≠0:=by
   refine eK fun Bk=>hb<|hv.2 _ fun c mc tc=>?_
   refine eK fun hc=>Bk ⟨c,mc,tc,fun e=>hc ?_⟩
   rw[pG];exact e
  obtain⟨c,mc,tc,hc⟩:=this;refine⟨a,ma,b,mb,c,mc,hc,?_⟩;obtain⟨t1,t2,t3⟩:=vX (a:=a) (b:=b) (c:=c) hc;refine Dy<|Ej hc ?_ ?_ ?_
  ·rw[val_sub,ta,t1];grind
  ·rw[val_sub,tb,t2];grind
  ·rw[val_sub,tc,t3];grind
 ·rintro⟨hm,a,ma,b,mb,c,mc,hd,rfl⟩;obtain⟨t1,t2,t3⟩:=vX hd;refine⟨hm,fun d h=>Ej hd (h a ma t1) (h b mb t2)<|h c mc t3⟩
theorem NR(a b c:Q3):oS b a c= -oS a b c:=by unfold oS aP aG;grind
theorem NQ(a b c:Q3):oS a c b= -oS a b c:=by unfold oS aP aG;grind
theorem TQ(a b c:H3)(h:oS a.1 b.1 c.1≠0):sC b a c=sC a b c:=by
 have h2:oS b.1 a.1 c.1≠0:=by rw[NR];grind
 obtain⟨t1,t2,t3⟩:=vX h;obtain⟨u1,u2,u3⟩:=vX h2;exact Dy (Ej h (by rw[val_sub,t1,u2];grind) (by rw[val_sub,t2,u1];grind) (by rw[val_sub,t3,u3];grind))
theorem TP(a b c:H3)(h:oS a.1 b.1 c.1≠0):sC a c b=sC a b c:=by
 have h2:oS a.1 c.1 b.1≠0:=by rw[NQ];grind
 obtain⟨t1,t2,t3⟩:=vX h;obtain⟨u1,u2,u3⟩:=vX h2;exact Dy (Ej h (by rw[val_sub,t1,u1];grind) (by rw[val_sub,t2,u3];grind) (by rw[val_sub,t3,u2];grind))
theorem PF{L:att H3}(hb:zQ L){n:Q3}{c:Rat}(h:∀p,rG L p->aP n p=c){q:Q3}(hq:Mem L q):aP n q=c:=by
 obtain⟨v,v1,v2,_⟩:=B2 hb hq n;obtain⟨u,u1,u2,_⟩:=B2 hb hq<|ik n<| -1
 rw[rN,rN] at u2;have:=h v v1;have:=h u u1
 grind
theorem Ts{L:att H3}(hb:zQ L){n:Q3}(hn:n≠o3){c:Rat}(h:∀p,rG L p->aP n p=c): ¬ ∃o,∀k∈L,val k o<0:=fun⟨o,ho⟩=>by
 have mo:Mem L o:=fun k mk=>jQ<|ho k mk
 obtain⟨e,e0,he⟩:=room mo (w:=n) fun k mk tk=>by have:=ho k mk;grind
 have h1:=PF hb h mo;have h2:=PF hb h<|he e (jQ e0) j6
 have:=kC e0<|lD hn
 rw[wY,je] at h2
 grind
theorem ade{L:att H3}(hz:∀k∈L,k.1≠o3){a b c d:Q3}(ha:Mem L a)(hb:Mem L b)(hc:Mem L c)(hd:Mem L d)(h:oS (cg b a) (cg c a) (cg d a)≠0):∃o,∀k∈L,val k o<0:=by
 refine⟨tE (tE a b<|1/2) (tE c d<|1/2)<|1/2,fun k mk=>?_⟩;have e:val k (tE (tE a b<|1/2) (tE c d<|1/2)<|1/2)=(1/4)*(val k a+val k b+val k c+val k d):=by rw[gW,gW,gW];grind
 have h1:=ha k mk;have h2:=hb k mk;have h3:=hc k mk;have h4:=hd k mk;refine eK fun g=>hz k mk ?_
 have a0:val k a=0:=by grind
 have b0:val k b=0:=by grind
 have c0:val k c=0:=by grind
 have d0:val k d=0:=by grind
 refine Ej h ?_ ?_ ?_<;>rw[pG,val_sub]
 ·rw[a0,b0];grind
 ·rw[a0,c0];grind
 ·rw[a0,d0];grind
theorem adn{S:att iK}{M:att H3}(I:nu S M){h:H3}(mh:h∈M){a b c:Q3}(va:rG M a)(vb:rG M b)(vc:rG M c)(ta:val h a=0)(tb:val h b=0)(tc:val h c=0)(Oi:a≠b)(hac:a≠c)(hbc:b≠c):∃f∈S,f.1=h:=by
 obtain⟨o,hi⟩:=I.int;have hz:val h (tE (tE a b<|1/2) c<|1/3)=0:=by rw[gW,gW,ta,tb,tc];grind
 obtain⟨f,mf,tf⟩:=I.cover (tE (tE a b<|1/2) c<|1/3) (fun k mk=>by
  rw[gW,gW];have:=va.1 k mk;have:=vb.1 k mk;have:=vc.1 k mk
  grind) ⟨h,mh,hz⟩
 have g1:=(I.zF f mf).1;refine⟨f,mf,aiF hi I.nz I.norm g1 mh (eK fun hc=>?_) tf hz⟩;rw[gW,gW] at tf;have:=va.1 _ g1;have:=vb.1 _ g1;have:=vc.1 _ g1;have fa:val f.1 a=0:=by grind
 have fb:val f.1 b=0:=by grind
 have fc:val f.1 c=0:=by grind
 obtain⟨s,hs⟩:=along hc (d:=cg b a) (by rw[val_sub,fa,fb];grind) (by rw[val_sub,ta,tb];grind);obtain⟨r,hr⟩:=along hc (d:=cg c a) (by rw[val_sub,fa,fc];grind) (by rw[val_sub,ta,tc];grind);refine SH va vb vc Oi hac hbc ?_;rw[hs,hr];exact vI (by simp only[aG,ik];grind) (by simp only[aG,ik];grind) (by simp only[aG,ik];grind)
end
structure GC{α:Type}(c:α×α->av8 Int)(R:α->α->Prop)(l:att α):Prop where
 get:∀x∈l,∀y∈l,∃v,c (x,y)=some v/\(v<0↔R x y)
 irr:∀x∈l,¬R x x
 tr:∀x∈l,∀y∈l,∀z∈l,R x y->R y z->R x z
 Vt:∀x∈l,∀y∈l,x=y\/R x y\/R y x
section
variable{α:Type}[DecidableEq α]{c:α×α->Option Int}{R:α->α->Prop}
variable{l:att α}
theorem GC.perm{m:att α}(h:GC c R l)(p:m.Perm l):GC c R m:=
 ⟨fun x mx y my=>h.get x (p.mem_iff.1 mx) y<|p.mem_iff.1 my,fun x mx=>h.irr x<|p.mem_iff.1 mx,fun x mx y my z mz=>h.tr x (p.mem_iff.1 mx) y (p.mem_iff.1 my) z<|p.mem_iff.1 mz,fun x mx y my=>h.Vt x (p.mem_iff.1 mx) y<|p.mem_iff.1 my⟩
theorem X0{x:α}:∀{s:att α},GC c R (x::s)->s.Pairwise (fun a b=>a=b\/R b a)->∃r,KM (fun a b=>c (a,b)) x s=some r/\r.Perm (x::s)/\r.Pairwise (fun a b=>a=b\/R b a)
 |[],_,_=>⟨[x],rfl,List.Perm.refl _,LM _ _⟩
 |y::s,h,hs=>by
  have mx:x∈x::y::s:=gJ;have my:y∈x::y::s:=by simp
  obtain⟨v,hv,Vf⟩:=h.get x mx y my;obtain⟨h1,h2⟩:=qM.1 hs;unfold KM;rw[hv];show ∃r,cond (decide<|v<0) _ _=some r/\_;by_cases hl:v<0
  ·obtain⟨r,r1,r2,r3⟩:=X0 (x:=x) (s:=s) ⟨fun a ma b mb=>h.get a (by grind) b (by grind),fun a ma=>h.irr a (by grind),fun a ma b mb d md=>h.tr a (by grind) b (by grind) d (by grind),fun a ma b mb=>h.Vt a (by grind) b (by grind)⟩ h2;refine⟨y::r,by rw[aW hl,bD,r1];rfl,((r2.cons y).trans<|List.Perm.swap x y s),qM.2 ⟨fun z mz=>?_,r3⟩⟩;rcases aY.1 (r2.mem_iff.1 mz) with e|mz
   ·rw[e];exact .inr<|Vf.1 hl
   ·exact h1 z mz
  ·refine⟨x::y::s,by rw[bC hl];rfl,List.Perm.refl _,qM.2 ⟨fun z mz=>?_,hs⟩⟩;have nxy: ¬R x y:=fun k=>hl<|Vf.2 k
   have hxy:x=y\/R y x:=by
    rcases h.Vt x mx y my with e|e|e
    ·exact .inl e
    ·exact absurd e nxy
    ·exact .inr e
   rcases aY.1 mz with e|mz
   ·rw[e];exact hxy
   ·rcases hxy with e|e
    ·rw[e];exact h1 z mz
    ·rcases h1 z mz with e2|e2
     ·rw[<-e2];exact .inr e
     ·exact .inr (h.tr z (by simp[mz]) y my x mx e2 e)
theorem PX:∀(l s:att α),GC c R (s++l)->s.Pairwise (fun a b=>a=b\/R b a)->∃r,Oh l (fun next x s=>bd (KM (fun a b=>c (a,b)) x s) next) s (fun s=>some s.reverse)=some r/\r.Perm (s++l)/\r.Pairwise (fun a b=>a=b\/R a b)
 |[],s,h,hs=>⟨s.reverse,rfl,by rw[rW];exact List.reverse_perm s,by
   rw[List.pairwise_reverse];exact hs.imp fun{a b} k=>k.elim (fun e=> .inl e.symm) .inr⟩
 |x::l,s,h,hs=>by
  obtain⟨r,r1,r2,r3⟩:=X0 (x:=x) (s:=s) ⟨fun a ma b mb=>h.get a (by grind) b (by grind),fun a ma=>h.irr a (by grind),fun a ma b mb d md=>h.tr a (by grind) b (by grind) d (by grind),fun a ma b mb=>h.Vt a (by grind) b (by grind)⟩ hs;have p:(r++l).Perm (s++x::l):=(r2.append_right l).trans (by simpa using(@List.perm_middle _ x s l).symm);obtain⟨t,t1,t2,t3⟩:=PX l r (h.perm p) r3;refine⟨t,?_,t2.trans p,t3⟩;show bd (KM (fun a b=>c (a,b)) x s) _=_;rw[r1];exact t1
theorem YJ{x:α}:∀{s:att α},GC c R (x::s)->(∀y∈s,x=y\/R x y)->aaC c x s=true
 |[],_,_=>rfl
 |y::s,h,hs=>by
  have mx:x∈x::y::s:=gJ;have my:y∈x::y::s:=by simp
  unfold aaC;rw[YJ (x:=x) (s:=s) ⟨fun a ma b mb=>h.get a (by grind) b (by grind),fun a ma=>h.irr a (by grind),fun a ma b mb d md=>h.tr a (by grind) b (by grind) d (by grind),fun a ma b mb=>h.Vt a (by grind) b (by grind)⟩ fun z mz=>hs z<|cW _ mz,Ln];obtain⟨v,v1,v2⟩:=h.get x mx y my;obtain⟨u,u1,u2⟩:=h.get y my x mx;rcases hs y gJ with e|e
  ·rw[aW e];rfl
  ·rw[v1,u1];cases decide (x=y)
   ·have n: ¬R y x:=fun k=>h.irr x mx (h.tr x mx y my x mx e k)
    have a:=v2.2 e;have b: ¬u<0:=fun k=>n<|u2.1 k
    show(decide (v<0)&&decide (0<=u))=true;rw[aW a,aW (by omega)];rfl
   ·rfl
theorem U4:∀{s:att α},GC c R s->s.Pairwise (fun a b=>a=b\/R a b)->Ep c s=true
 |[],_,_=>rfl
 |x::s,h,hs=>by
  obtain⟨h1,h2⟩:=qM.1 hs;unfold Ep;obtain⟨v,v1,v2⟩:=h.get x gJ x gJ;have: ¬v<0:=fun k=>h.irr x gJ<|v2.1 k
  rw[v1,YJ h h1,U4 (s:=s) ⟨fun a ma b mb=>h.get a (by grind) b (by grind),fun a ma=>h.irr a (by grind),fun a ma b mb d md=>h.tr a (by grind) b (by grind) d (by grind),fun a ma b mb=>h.Vt a (by grind) b (by grind)⟩ h2];show(decide (0<=v)&&(true&&true))=true;rw[aW (by omega)];rfl
theorem QR(h:GC c R l)(hl:l.length<4611686018427387904):∃s,nC l c=some s/\s.Perm l/\s.Pairwise (fun a b=>a=b\/R a b):=by
 obtain⟨s,s1,s2,s3⟩:=PX l [] h List.Pairwise.nil;refine⟨s,?_,s2,s3⟩;unfold nC RI;rw[s1];have ht:totB c l=true:=by
  unfold totB;rw[dI];intro x mx;rw[dI];intro y my;obtain⟨v,v1,_⟩:=h.get x mx y my;rw[v1];rfl
 show Bl _ s=_;rw[ht,U4 (h.perm s2) s3,show Nat.blt l.length 4611686018427387904=true from lz hl];rfl
theorem UO{e:α×α->av8 Bool}:∀{x:α} {l:att α},(∀a∈x::l,∀b∈x::l,e (a,b)=some (decide<|a=b))->(x::l).Pairwise (fun a b=>a=b\/R a b)->GC c R (x::l)->∃r,Qf (fun a b=>e (a,b)) x l=some r/\(x::r).Pairwise R/\∀z,z∈x::r↔z∈x::l
 |x,[],_,_,_=>⟨[],rfl,LM _ _,fun z=>Iff.rfl⟩
 |x,y::l,he,hs,h=>by
  obtain⟨h1,h2⟩:=qM.1 hs;obtain⟨r,r1,r2,r3⟩:=UO (x:=y) (l:=l) (fun a ma b mb=>he a (cW _ ma) b<|cW _ mb) h2 ⟨fun a ma b mb=>h.get a (by grind) b (by grind),fun a ma=>h.irr a (by grind),fun a ma b mb d md=>h.tr a (by grind) b (by grind) d (by grind),fun a ma b mb=>h.Vt a (by grind) b (by grind)⟩;unfold Qf;rw[he y (by simp) x (by simp),r1];by_cases hxy:y=x
  ·subst hxy;refine⟨r,by rw[aW rfl];rfl,r2,fun z=>?_⟩;rw[r3];simp
  ·refine⟨y::r,by rw[bC hxy];rfl,qM.2 ⟨fun z mz=>?_,r2⟩,fun z=>?_⟩
   ·have rxy:R x y:=(h1 y (by simp)).elim (fun e=>absurd e.symm hxy) id;rcases aY.1 mz with e|mz'
    ·rw[e];exact rxy
    ·have ryz:=(qM.1 r2).1 z mz';exact h.tr x (by simp) y (by simp) z (cW _<|(r3 z).1 mz) rxy ryz
   ·rw[aY,r3];simp
theorem WL{e:α×α->av8 Bool}(he:∀a∈l,∀b∈l,e (a,b)=some (decide<|a=b))(hs:l.Pairwise (fun a b=>a=b\/R a b))(h:GC c R l):∃r,BP l e=some r/\r.Pairwise R/\∀z,z∈r↔z∈l:=by
 cases l with
 |nil=>exact⟨[],rfl,List.Pairwise.nil,fun z=>Iff.rfl⟩
 |cons x l=>
  obtain⟨r,r1,r2,r3⟩:=UO he hs h;refine⟨x::r,?_,r2,r3⟩;show bd (Qf (fun a b=>e (a,b)) x l) _=_;rw[r1];rfl
theorem Ze{m:att α}(hl:l.Pairwise R)(hm:m.Pairwise R)(ha:∀x∈l,∀y∈l,R x y-> ¬R y x)(h:∀z,z∈l↔z∈m):l=m:=by
 induction l generalizing m with
 |nil=>
  cases m with
  |nil=>rfl
  |cons y m=>exact absurd ((h y).2 gJ) (by simp)
 |cons x l ih=>
  cases m with
  |nil=>exact absurd ((h x).1 gJ) (by simp)
  |cons y m=>
   obtain⟨l1,l2⟩:=qM.1 hl;obtain⟨m1,m2⟩:=qM.1 hm;have irr:∀z∈x::l,¬R z z:=fun z mz k=>ha z mz z mz k k
   have exy:x=y:=by
    refine eK fun hne=>?_
    have a:x∈m:=by
     rcases aY.1 ((h x).1 gJ) with e|e
     ·exact absurd e hne
     ·exact e
    have b:y∈l:=by
     rcases aY.1 ((h y).2 gJ) with e|e
     ·exact absurd e.symm hne
     ·exact e
    exact ha x gJ y (cW _ b) (l1 y b)<|m1 x a
   subst exy
   congr 1
   refine ih l2 m2 (fun a ma b mb=>ha a (cW _ ma) b<|cW _ mb) fun z=>?_
   constructor
   ·intro mz;rcases aY.1 ((h z).1<|cW _ mz) with e|e
    ·rw[e] at mz;exact absurd (l1 _ mz)<|irr _ gJ
    ·exact e
   ·intro mz;rcases aY.1 ((h z).2<|cW _ mz) with e|e
    ·rw[e] at mz;exact absurd (m1 _ mz)<|irr _ gJ
    ·exact e
end
section
variable{a:Rat}{L:att H3}{p:Q3}{x y m:Rat}{M:att H3}{v w b:Q3}{S:att iK}{k:Rat}{c:Q3}{l:att Q3}{n u:Q3}
def Og(a b:Q3):Prop:=a.1<b.1\/a.1=b.1/\(a.2.1<b.2.1\/a.2.1=b.2.1/\a.2.2<b.2.2)
theorem Lj(a:Q3): ¬Og a a:=by unfold Og;grind
theorem aiT{a:Q3}:Og a b->Og b c->Og a c:=by unfold Og;grind
theorem afM(a b:Q3):a=b\/Og a b\/Og b a:=by
 by_cases h:a=b
 ·exact .inl h
 ·right;have: ¬(a.1=b.1/\a.2.1=b.2.1/\a.2.2=b.2.2):=fun k=>h<|lW k.1 k.2.1 k.2.2
  unfold Og;grind
theorem ab8{c:Q3×Q3->av8 Int}(h:∀x∈l,∀y∈l,∃v,c (x,y)=some v/\(v<0↔Og x y)):GC c Og l:=
 ⟨h,fun x _=>Lj x,fun x _ y _ z _=>aiT,fun x _ y _=>afM x y⟩
theorem PE(hn:n≠o3)(hu:aP n u=0)(hv:aP n v=0)(hw:aP n w=0):ik v (aP n<|aG u w)=j4 (ik u<|aP n<|aG v w) (ik w<|aP n<|aG u v):=by
 have hp:=lD hn;have hd:oS u v w*aP n n=0:=by
  have:oS u v w*aP n n=aP n (aG v w)*aP n u-aP n (aG u w)*aP n v+aP n (aG u v)*aP n w:=by unfold oS aP aG;grind
  rw[this,hu,hv,hw];grind
 have hd:oS u v w=0:=by
  rcases lq.1 hd with g|g
  ·exact g
  ·grind
 unfold oS at hd;refine lW ?_ ?_ ?_<;>simp only[ik,j4]
 ·have:u.1*aP n (aG v w)+w.1*aP n (aG u v)-v.1*aP n (aG u w)=aP (aG u v) w*n.1:=by unfold aP aG;grind
  rw[hd] at this;grind
 ·have:u.2.1*aP n (aG v w)+w.2.1*aP n (aG u v)-v.2.1*aP n (aG u w)=aP (aG u v) w*n.2.1:=by unfold aP aG;grind
  rw[hd] at this;grind
 ·have:u.2.2*aP n (aG v w)+w.2.2*aP n (aG u v)-v.2.2*aP n (aG u w)=aP (aG u v) w*n.2.2:=by unfold aP aG;grind
  rw[hd] at this;grind
def Q1(u:Q3):Prop:=0<u.1\/u.1=0/\(0<u.2.1\/u.2.1=0/\0<u.2.2)
theorem Jh{a:Q3}(h:Og a b):Q1 (cg b a):=by unfold Og at h;unfold Q1 cg;dsimp only;grind
theorem aft{b:Rat}(hu:Q1 u)(hw:Q1 w)(ha:0<a)(hb:0<b):Q1 (j4 (ik u a)<|ik w b):=by
 have m:∀x c:Rat,0<c->(0<x->0<x*c)/\(x=0->x*c=0):=fun x c hc=>⟨fun h=>kC h hc,fun h=>by rw[h];grind⟩
 have a1:=m u.1 a ha;have a2:=m u.2.1 a ha;have a3:=m u.2.2 a ha;have b1:=m w.1 b hb;have b2:=m w.2.1 b hb;have b3:=m w.2.2 b hb;unfold Q1 at*;unfold j4 ik;dsimp only
 grind
theorem aiE(hv:Q1 v)(h:Q1 (ik v a)):0<a:=by
 refine eK fun c=>?_
 have m:∀x:Rat,0<=x->x*a<=0:=fun x hx=>by have:=ft hx (show 0<= -a by grind);grind
 have m1:=m v.1;have m2:=m v.2.1;have m3:=m v.2.2;have z:∀x:Rat,0<x->x*a=0->a=0:=fun x hx h=>by
  rcases lq.1 h with g|g
  ·grind
  ·exact g
 have z1:=z v.1;have z2:=z v.2.1;unfold Q1 at*;unfold ik at h;dsimp only at h
 grind
theorem akp{a:Q3}{d:Rat}(hn:n≠o3)(tp:val (n,d) p=0)(ta:val (n,d) a=0)(tb:val (n,d) b=0)(tc:val (n,d) c=0)(la:Og p a)(lb:Og p b)(lc:Og p c)(h1:0<qy n p a b)(h2:0<qy n p b c):0<qy n p a c:=by
 have ea:=val_sub (n,d) p a;have eb:=val_sub (n,d) p b;have ec:=val_sub (n,d) p c;rw[tp,ta] at ea;rw[tp,tb] at eb;rw[tp,tc] at ec;have r:=PE hn (u:=cg a p) (v:=cg b p) (w:=cg c p) (by grind) (by grind) (by grind);unfold qy at h1 h2⊢;refine aiE (Jh lb) (v:=cg b p) ?_;rw[r];exact aft (Jh la) (Jh lc) h2 h1
theorem adX{f:H3}(hf:f.1≠o3)(vp:rG L p)(tp:val f p=0)(hl:∀x∈l,rG L x/\val f x=0/\Og p x){c:Q3×Q3->av8 Int}(hc:∀x∈l,∀y∈l,∃v,c (x,y)=some v/\(v<0↔0<qy f.1 p x y)):GC c (fun x y=>0<qy f.1 p x y) l:=by
 refine⟨hc,fun x _ h=>?_,fun x mx y my z mz h1 h2=>?_,fun x mx y my=>?_⟩
 ·rw[wI] at h;grind
 ·obtain⟨_,a2,a3⟩:=hl x mx;obtain⟨_,b2,b3⟩:=hl y my;obtain⟨_,c2,c3⟩:=hl z mz;exact akp hf tp a2 b2 c2 a3 b3 c3 h1 h2
 ·by_cases e:x=y
  ·exact .inl e
  ·right;obtain⟨a1,a2,a3⟩:=hl x mx;obtain⟨b1,b2,b3⟩:=hl y my;have h:=Xh hf vp a1 b1 tp a2 b2 (fun e=>Lj p (by rw[<-e] at a3;exact a3)) (fun e=>Lj p (by rw[<-e] at b3;exact b3)) e;have s:qy f.1 p y x= -qy f.1 p x y:=by unfold qy aP aG cg;grind
   rw[s];grind
theorem Ho{α:Type}{R:α->α->Prop}{l:att α}(h:l.Pairwise R){a b:α}(s:[a,b].Sublist l):R a b:=LU.1 h s
theorem Zv{f:H3}(hf:f.1≠o3){s:att Q3}(hl:∀x∈p::s,rG L x/\val f x=0)(hs:s.Pairwise fun x y=>0<qy f.1 p x y):Kl f.1 (p::s):=by
 intro a b c h;cases h with
 |cons_cons _ h=>exact Ho hs h
 |cons _ h=>
  have ab:=Ho hs<|(((vg [c]).cons_cons b).cons_cons a).trans h
  have bc:=Ho hs<|((List.sublist_cons_self a [b,c])).trans h
  have ac:=Ho hs<|(((List.sublist_cons_self b [c])).cons_cons a).trans h
  have g:∀x,x∈[a,b,c]->x∈p::s:=fun x mx=>cW _<|h.subset mx
  obtain⟨vp,tp⟩:=hl p gJ;obtain⟨va,ta⟩:=hl a (g a (by simp));obtain⟨vb,tb⟩:=hl b (g b (by simp));obtain⟨vc,tc⟩:=hl c (g c (by simp));refine eK fun Bk=>?_
  have ea:=val_sub f p a;have eb:=val_sub f p b;have ec:=val_sub f p c;rw[tp,ta] at ea;rw[tp,tb] at eb;rw[tp,tc] at ec;have r:=PE hf (u:=cg a p) (v:=cg b p) (w:=cg c p) (by grind) (by grind) (by grind);have o:qy f.1 a b c=qy f.1 p b c-qy f.1 p a c+qy f.1 p a b:=by unfold qy aP aG cg;grind
  have:a=c:=by
   refine Dy<|vb.2 _ fun h mh th=>?_
   have k:=congrArg (aP h.1) r;rw[je,wY,je,je,val_sub,val_sub,val_sub,th] at k;change qy f.1 p a c*(0-val h p)=qy f.1 p b c*(val h a-val h p)+qy f.1 p a b*(val h c-val h p) at k;have x:=vp.1 h mh;have y:=va.1 h mh;have z:=vc.1 h mh;have i1:=ft (show 0<= -qy f.1 a b c by grind) (show 0<= -val h p by grind);have i2:=ft (show 0<=qy f.1 p b c by grind) (show 0<= -val h a by grind);have i3:=ft (show 0<=qy f.1 p a b by grind) (show 0<= -val h c by grind);rw[o] at i1;have j2:qy f.1 p b c*val h a=0:=by grind
   have j3:qy f.1 p a b*val h c=0:=by grind
   rw[val_sub];rcases lq.1 j2 with g|g
   ·grind
   ·rcases lq.1 j3 with g'|g'
    ·grind
    ·rw[g,g'];grind
  rw[this,wI] at ac
  grind
def gw(a:Rat):att H3:=[((-1,0,0),a),((1,0,0),a),((0,-1,0),a),((0,1,0),a),((0,0,-1),a),((0,0,1),a)]
theorem yX(a:Rat)(p:Q3):val ((-1,0,0),a) p= -p.1-a:=by unfold val aP;grind
theorem yW(a:Rat)(p:Q3):val ((1,0,0),a) p=p.1-a:=by unfold val aP;grind
theorem yV(a:Rat)(p:Q3):val ((0,-1,0),a) p= -p.2.1-a:=by unfold val aP;grind
theorem yU(a:Rat)(p:Q3):val ((0,1,0),a) p=p.2.1-a:=by unfold val aP;grind
theorem yT(a:Rat)(p:Q3):val ((0,0,-1),a) p= -p.2.2-a:=by unfold val aP;grind
theorem yS(a:Rat)(p:Q3):val ((0,0,1),a) p=p.2.2-a:=by unfold val aP;grind
theorem nt{P:H3->Prop}:(∀h∈gw a,P h)↔P ((-1,0,0),a)/\P ((1,0,0),a)/\P ((0,-1,0),a)/\P ((0,1,0),a)/\P ((0,0,-1),a)/\P ((0,0,1),a):=by
 unfold gw;simp
theorem agS{P:H3->Prop}:(∃h∈gw a,P h)↔P ((-1,0,0),a)\/P ((1,0,0),a)\/P ((0,-1,0),a)\/P ((0,1,0),a)\/P ((0,0,-1),a)\/P ((0,0,1),a):=by
 unfold gw;simp
theorem ab2:Mem (gw a) p↔(-a<=p.1/\p.1<=a)/\(-a<=p.2.1/\p.2.1<=a)/\ -a<=p.2.2/\p.2.2<=a:=by
 unfold Mem;rw[nt,yX,yW,yV,yU,yT,yS];grind
theorem yR(ha:0<a):rG (gw a) p↔(p.1=a\/p.1= -a)/\(p.2.1=a\/p.2.1= -a)/\(p.2.2=a\/p.2.2= -a):=by
 unfold rG;rw[ab2];constructor
 ·rintro⟨h,k⟩;have d1:∀x:Rat,aP (-1,0,0) (1,0,0)= -1:=fun _=>by unfold aP;grind
  refine⟨eK fun c=>?_,eK fun c=>?_,eK fun c=>?_⟩
  ·have:=k (1,0,0) (by rw[nt,yX,yW,yV,yU,yT,yS];unfold aP;grind);exact G2 this
  ·have:=k (0,1,0) (by rw[nt,yX,yW,yV,yU,yT,yS];unfold aP;grind);have:=congrArg (fun x:Q3=>x.2.1) this;simp only[o3] at this;grind
  ·have:=k (0,0,1) (by rw[nt,yX,yW,yV,yU,yT,yS];unfold aP;grind);have:=congrArg (fun x:Q3=>x.2.2) this;simp only[o3] at this;grind
 ·rintro⟨h1,h2,h3⟩;refine⟨by grind,fun d hd=>?_⟩;rw[nt,yX,yW,yV,yU,yT,yS] at hd;unfold aP at hd;dsimp only at hd;exact vI (by grind) (by grind) (by grind)
theorem UJ(a:Rat):zQ (gw a):=fun d hd=>by
 rw[agS];unfold aP;dsimp only;refine eK fun c=>hd (vI ?_ ?_ ?_)<;>grind
theorem y4{a:Q3}(ha:a∈l)(hb:b∈l)(hc:c∈l)(Oi:a≠b)(hac:a≠c)(hbc:b≠c):3<=l.length:=by
 match l,ha,hb,hc with
 |[x],ha,hb,hc=>simp at ha hb hc;exact absurd (ha.trans hb.symm) Oi
 |[x,y],ha,hb,hc=>simp at ha hb hc;grind
 |_::_::_::_,_,_,_=>simp
def KH(a:Rat)(f:Rat->Rat->Q3):att Q3:=[f (-a)<| -a,f (-a) a,f a<| -a,f a a]
theorem Tm{f:Rat->Rat->Q3}:p∈KH a f↔∃x y,(x=a\/x= -a)/\(y=a\/y= -a)/\p=f x y:=by
 unfold KH;simp only[aY,Aw,or_false];constructor
 ·rintro(h|h|h|h)
  ·exact⟨_,_,.inr rfl,.inr rfl,h⟩
  ·exact⟨_,_,.inr rfl,.inl rfl,h⟩
  ·exact⟨_,_,.inl rfl,.inr rfl,h⟩
  ·exact⟨_,_,.inl rfl,.inl rfl,h⟩
 ·rintro⟨x,y,hx|hx,hy|hy,h⟩<;>subst hx<;>subst hy<;>simp[h]
theorem aaq(ha:0<a)(hS:S.map Prod.fst=gw a)(hC:∀f∈S,Kl f.1.1 f.2/\∀p,p∈f.2↔rG (gw a) p/\val f.1 p=0):nu S (gw a):=by
 have hin:∀f∈S,f.1∈gw a:=fun f mf=>by rw[<-hS];exact bT.2 ⟨f,mf,rfl⟩
 have hd:(gw a).Pairwise (· ≠ ·):=by
  have:((gw a).map Prod.fst).Pairwise (· ≠ ·):=by
   show List.Pairwise (· ≠ ·) ([(-1,0,0),(1,0,0),(0,-1,0),(0,1,0),(0,0,-1),(0,0,1)]:att Q3)
   decide
  exact(yu.1 this).imp fun{a b} h e=>h<|congrArg Prod.fst e
 have ca:∀h∈gw a,h.2=a:=by rw[nt];exact⟨rfl,rfl,rfl,rfl,rfl,rfl⟩
 refine⟨UJ a,⟨o3,?_⟩,?_,?_,fun f mf=>?_,?_,fun p hp ht=>?_⟩
 ·rw[nt,yX,yW,yV,yU,yT,yS];unfold o3;dsimp only;grind
 ·rw[nt];unfold o3;simp only[ne_eq,pg];grind
 ·intro h mh k mk hk;obtain⟨s,s0,e⟩:=hk;have:=ca h mh;have hk2:=ca k mk;have e2:k.2=h.2*s:=by rw[e]
  have:s=1:=by
   have:a*(s-1)=0:=by grind
   rcases lq.1 this with g|g<;>grind
  subst this;rw[e];refine Prod.ext (lW ?_ ?_ ?_) ?_<;>simp only[ik]<;>grind
 ·obtain⟨c1,c2⟩:=hC f mf;refine⟨hin f mf,c1,?_,c2⟩;have one:∀x y z:Rat,(x=a\/x= -a)->(y=a\/y= -a)->(z=a\/z= -a)->val f.1 (x,y,z)=0->(x,y,z)∈f.2:=fun x y z hx hy hz hv=>(c2 _).2 ⟨(yR ha).2 ⟨hx,hy,hz⟩,hv⟩
  have hne:a≠ -a:=by grind
  have mf:=hin f mf;have hr:a=a\/a= -a:= .inl rfl;have hl: -a=a\/ -a= -a:= .inr rfl
  generalize f.1=h at*
  simp only[gw,aY,Aw,or_false] at mf;rcases mf with e|e|e|e|e|e<;>subst e
  ·exact y4 (one (-a) a a hl hr hr (by rw[yX];grind)) (one (-a) a (-a) hl hr hl (by rw[yX];grind)) (one (-a) (-a) a hl hl hr (by rw[yX];grind)) (by simp[hne]) (by simp[hne]) (by simp[hne])
  ·exact y4 (one a a a hr hr hr (by rw[yW];grind)) (one a a (-a) hr hr hl (by rw[yW];grind)) (one a (-a) a hr hl hr (by rw[yW];grind)) (by simp[hne]) (by simp[hne]) (by simp[hne])
  ·exact y4 (one a (-a) a hr hl hr (by rw[yV];grind)) (one a (-a) (-a) hr hl hl (by rw[yV];grind)) (one (-a) (-a) a hl hl hr (by rw[yV];grind)) (by simp[hne]) (by simp[hne]) (by simp[hne])
  ·exact y4 (one a a a hr hr hr (by rw[yU];grind)) (one a a (-a) hr hr hl (by rw[yU];grind)) (one (-a) a a hl hr hr (by rw[yU];grind)) (by simp[hne]) (by simp[hne]) (by simp[hne])
  ·exact y4 (one a a (-a) hr hr hl (by rw[yT];grind)) (one a (-a) (-a) hr hl hl (by rw[yT];grind)) (one (-a) a (-a) hl hr hl (by rw[yT];grind)) (by simp[hne]) (by simp[hne]) (by simp[hne])
  ·exact y4 (one a a a hr hr hr (by rw[yS];grind)) (one a (-a) a hr hl hr (by rw[yS];grind)) (one (-a) a a hl hr hr (by rw[yS];grind)) (by simp[hne]) (by simp[hne]) (by simp[hne])
 ·rw[<-hS] at hd;exact yu.1 hd
 ·obtain⟨h,mh,th⟩:=ht;rw[<-hS] at mh;obtain⟨f,mf,e⟩:=bT.1 mh;exact⟨f,mf,by rw[e];exact th⟩
def OU(x:Rat):Prop:=∃z:Int,x=(z:Rat)
theorem OU.mul:OU x->OU y->OU (x*y)|⟨a,ha⟩,⟨b,hb⟩=>⟨a*b,by rw[ha,hb,Rat.intCast_mul]⟩
theorem OU.add:OU x->OU y->OU (x+y)|⟨a,ha⟩,⟨b,hb⟩=>⟨a+b,by rw[ha,hb,Rat.intCast_add]⟩
theorem OU.sub:OU x->OU y->OU (x-y)|⟨a,ha⟩,⟨b,hb⟩=>⟨a-b,by rw[ha,hb,Rat.intCast_sub]⟩
def KL(v:Q3):Prop:=OU v.1/\OU v.2.1/\OU v.2.2
theorem KL.UK(h:KL v)(k:KL w):KL (aG v w):=
 ⟨(h.2.1.mul k.2.2).sub<|h.2.2.mul k.2.1,(h.2.2.mul k.1).sub<|h.1.mul k.2.2,(h.1.mul k.2.1).sub<|h.2.1.mul k.1⟩
theorem KL.dot(h:KL v)(k:KL w):OU (aP v w):=((h.1.mul k.1).add<|h.2.1.mul k.2.1).add<|h.2.2.mul k.2.2
theorem OU.one(h:OU x)(h0:x≠0):1<=x\/x<= -1:=by
 obtain⟨z,rfl⟩:=h;have:z≠0:=fun e=>h0 (by rw[e];rfl)
 rcases Int.lt_or_gt_of_ne this with h|h
 ·right;have:=Rat.intCast_le_intCast.2 (show z<= -1 by omega);simpa using this
 ·left;have:=Rat.intCast_le_intCast.2 (show 1<=z by omega);simpa using this
def wi(x m:Rat):Prop:= -m<=x/\x<=m
theorem wi.mul(h:wi x m)(g:wi y k):wi (x*y) (m*k):=by
 obtain⟨a,b⟩:=h;obtain⟨c,d⟩:=g;have p1:=ft (show 0<=m-x by grind) (show 0<=k+y by grind);have p2:=ft (show 0<=m+x by grind) (show 0<=k-y by grind);have p3:=ft (show 0<=m-x by grind) (show 0<=k-y by grind);have p4:=ft (show 0<=m+x by grind) (show 0<=k+y by grind);constructor<;>grind
theorem wi.add(h:wi x m)(g:wi y k):wi (x+y) (m+k):=by unfold wi at*;grind
theorem wi.sub(h:wi x m)(g:wi y k):wi (x-y) (m+k):=by unfold wi at*;grind
def YW(v:Q3)(m:Rat):Prop:=wi v.1 m/\wi v.2.1 m/\wi v.2.2 m
theorem YW.UK(h:YW v m)(g:YW w k):YW (aG v w) (m*k+m*k):=
 ⟨(h.2.1.mul g.2.2).sub<|h.2.2.mul g.2.1,(h.2.2.mul g.1).sub<|h.1.mul g.2.2,(h.1.mul g.2.1).sub<|h.2.1.mul g.1⟩
theorem ai5(h:1<=x\/x<= -1):wi x⁻¹ 1:=by
 have e:=LB x (by grind)
 generalize x⁻¹ =i at e
 constructor
 ·refine eK fun c=>?_
  rcases h with g|g
  ·have:=ft (show 0<=x-1 by grind) (show 0<= -i by grind);grind
  ·have:=ft (show 0<= -1-x by grind) (show 0<= -i-1 by grind);grind
 ·refine eK fun c=>?_
  rcases h with g|g
  ·have:=ft (show 0<=x-1 by grind) (show 0<=i-1 by grind);grind
  ·have:=ft (show 0<= -1-x by grind) (show 0<=i by grind);grind
theorem afI{a b c:H3}{D:Rat}(ia:KL a.1)(ib:KL b.1)(ic:KL c.1)(ha:YW a.1 m/\wi a.2 D)(hb:YW b.1 m/\wi b.2 D)(hc:YW c.1 m/\wi c.2 D)(hd:oS a.1 b.1 c.1≠0):YW (sC a b c) (6*(m*m*D)):=by
 have hi:=ai5<|OU.one ((ia.UK ib).dot ic) hd
 have x1:=hb.1.UK hc.1;have x2:=hc.1.UK ha.1;have x3:=ha.1.UK hb.1;unfold sC oS
 generalize (aP (aG a.1 b.1) c.1)⁻¹ =i at hi
 have fin:∀{x y z:Rat},wi x (m*m+m*m)->wi y (m*m+m*m)->wi z (m*m+m*m)->wi ((x*a.2+y*b.2+z*c.2)*i) (6*(m*m*D)):=fun h1 h2 h3=>by
  have:=(((h1.mul ha.2).add<|h2.mul hb.2).add<|h3.mul hc.2).mul hi;unfold wi at this⊢
  grind
 exact⟨fin x1.1 x2.1 x3.1,fin x1.2.1 x2.2.1 x3.2.1,fin x1.2.2 x2.2.2 x3.2.2⟩
theorem agc(hb:zQ L){D:Rat}(hm:0<m)(hD:0<D)(hL:∀k∈L,KL k.1/\YW k.1 m/\wi k.2 D)(hp:Mem L p):∀h∈gw (7*(m*m*D)),val h p<0:=by
 have h0:=kC (kC hm hm) hD;have key:∀c:Q3,∃v,YW v (6*(m*m*D))/\aP c p<=aP c v:=fun c=>by
  obtain⟨v,v1,v2,_⟩:=B2 hb hp c;obtain⟨_,a,ma,b,mb,d,md,hd,rfl⟩:=Dv.1 v1;obtain⟨ia,wa⟩:=hL a ma;obtain⟨ib,wb⟩:=hL b mb;obtain⟨id,wd⟩:=hL d md;exact⟨_,afI ia ib id wa wb wd hd,v2⟩
 unfold YW wi at key;rw[nt,yX,yW,yV,yU,yT,yS];obtain⟨v1,k1⟩:=key (-1,0,0);obtain⟨v2,k2⟩:=key (1,0,0);obtain⟨v3,k3⟩:=key (0,-1,0);obtain⟨v4,k4⟩:=key (0,1,0);obtain⟨v5,k5⟩:=key (0,0,-1);obtain⟨v6,k6⟩:=key (0,0,1);unfold aP at k1 k2 k3 k4 k5 k6;dsimp only at k1 k2 k3 k4 k5 k6
 grind
theorem nu.drop{C:att H3}(I:nu S M)(hM:∀k,k∈M↔k∈L\/k∈C)(hb:zQ L)(hc:∀p,Mem L p->∀h∈C,val h p<0):nu S L/\∀p,Mem L p↔Mem M p:=by
 have Bb:∀p,Mem L p↔Mem M p:=fun p=>by
  constructor
  ·intro h k mk;rcases(hM k).1 mk with m|m
   ·exact h k m
   ·exact jQ<|hc p h k m
  ·exact fun h k mk=>h k<|(hM k).2<| .inl mk
 have hv:∀p,rG M p↔rG L p:=fun p=>by
  constructor
  ·rintro⟨h1,h2⟩;refine⟨(Bb p).2 h1,fun d hd=>h2 d fun k mk tk=>?_⟩;rcases(hM k).1 mk with m|m
   ·exact hd k m tk
   ·have:=hc p ((Bb p).2 h1) k m;grind
  ·rintro⟨h1,h2⟩;exact⟨(Bb p).1 h1,fun d hd=>h2 d fun k mk tk=>hd k ((hM k).2<| .inl mk) tk⟩
 refine⟨⟨hb,?_,fun h mh=>I.nz h<|(hM h).2<| .inl mh,fun h mh k mk=>I.norm h ((hM h).2<| .inl mh) k<|(hM k).2<| .inl mk,fun f mf=>?_,I.WH,fun p hp ht=>?_⟩,Bb⟩
 ·obtain⟨o,ho⟩:=I.int;exact⟨o,fun h mh=>ho h<|(hM h).2<| .inl mh⟩
 ·obtain⟨f1,f2,f3,f4⟩:=I.zF f mf;refine⟨?_,f2,f3,fun p=>by rw[f4,hv]⟩;rcases(hM _).1 f1 with m|m
  ·exact m
  ·obtain⟨p,mp⟩:=List.exists_mem_of_ne_nil f.2 (fun e=>by rw[e] at f3;simp at f3);obtain⟨vp,tp⟩:=(f4 p).1 mp;have:=hc p ((Bb p).2 vp.1) _ m
   grind
 ·obtain⟨k,mk,tk⟩:=ht;exact I.cover p ((Bb p).1 hp) ⟨k,(hM k).2<| .inl mk,tk⟩
theorem adR(I:nu S M)(hM:∀k,k∈M↔k∈L\/k∈gw a)(ha:0<a)(h1:∀k∈L,0<k.2)(hc:zQ L->∀p,Mem L p->∀h∈gw a,val h p<0):zQ L↔∀f∈S,f.1∈L:=by
 constructor
 ·intro hb f mf;exact((I.drop hM hb<|hc hb).1.zF f mf).1
 ·intro hf d hd;refine eK fun Bk=>?_
  have hle:∀k∈L,aP k.1 d<=0:=fun k mk=>eK fun c=>Bk ⟨k,mk,by grind⟩
  obtain⟨h,mh,ph,hm⟩:=least (fun h:H3=>0<aP h.1 d) (fun h=>a/aP h.1 d) (gw a)<|UJ a d hd
  have ca:∀h∈gw a,h.2=a:=by rw[nt];exact⟨rfl,rfl,rfl,rfl,rfl,rfl⟩
  have key:∀k:H3,0<aP k.1 d->a/aP k.1 d*aP k.1 d=a:=fun k hk=>wV (by grind)
  have hr:0<a/aP h.1 d:=by rw[Cq];exact kC ha<|Cp.2 ph
  have kh:=key h ph
  generalize a/aP h.1 d=r at*
  have vz:∀k:H3,val k (ik d r)=r*aP k.1 d-k.2:=fun k=>by unfold val;rw[je]
  have neg:∀k∈L,val k (ik d r)<0:=fun k mk=>by
   rw[vz];have:=ft (show 0<=r by grind) (show 0<= -aP k.1 d by have:=hle k mk;grind);have:=h1 k mk
   grind
  obtain⟨f,mf,tf⟩:=I.cover (ik d r) (fun k mk=>by
   rcases(hM k).1 mk with m|m
   ·exact jQ<|neg k m
   ·rw[vz,ca k m];by_cases g:0<aP k.1 d
    ·have h2:=hm k m g;have h3:=key k g;have:=LS h2<|jQ g
     grind
    ·have:=ft (show 0<=r by grind) (show 0<= -aP k.1 d by grind)
     grind) ⟨h,(hM h).2<| .inr mh,by rw[vz,ca h mh];grind⟩
  have:=neg f.1<|hf f mf
  grind
structure Eu(L M:att H3):Prop where
 sub:∀h∈M,h∈L
 le:∀h∈L,∃k∈M,k.1=h.1/\k.2<=h.2
theorem aij{h k:H3}(e:k.1=h.1)(l:k.2<=h.2)(p:Q3):val h p<=val k p:=by unfold val;rw[e];grind
theorem Eu.mem(h:Eu L M)(p:Q3):Mem M p↔Mem L p:=
 ⟨fun hp x mx=>by obtain⟨k,mk,e,l⟩:=h.le x mx;exact Cr (aij e l p)<|hp k mk,fun hp x mx=>hp x<|h.sub x mx⟩
theorem Eu.tight(h:Eu L M)(hp:Mem M p){x:H3}(mx:x∈L)(tx:val x p=0):x∈M:=by
 obtain⟨k,mk,e,l⟩:=h.le x mx;have h1:=hp k mk;have:k=x:=Prod.ext e (by unfold val at h1 tx;rw[e] at h1;grind);rw[<-this];exact mk
theorem Eu.vtx(h:Eu L M)(p:Q3):rG M p↔rG L p:=
 ⟨fun hp=>⟨(h.mem p).1 hp.1,fun d hd=>hp.2 d fun x mx tx=>hd x (h.sub x mx) tx⟩,
  fun hp=>⟨(h.mem p).2 hp.1,fun d hd=>hp.2 d fun x mx tx=>hd x (h.tight ((h.mem p).2 hp.1) mx tx) tx⟩⟩
theorem UB(I:nu S L)(hm:Eu L M){C:att Q3}(hC:∀p,p∈C↔rG M p)(hn:C.Nodup)(h:H3):h∈S.map (·.1)↔h∈M/\3<=(C.filter fun p=>decide<|val h p=0).length:=by
 have mf:∀p,p∈(C.filter fun p=>decide<|val h p=0)↔rG L p/\val h p=0:=fun p=>by rw[pW,hC,hm.vtx,jc]
 constructor
 ·intro mh;obtain⟨f,hf,rfl⟩:=bT.1 mh;obtain⟨f1,f2,f3,f4⟩:=I.zF f hf;have nd:=f2.nodup f3;have mm:∀p∈f.2,p∈(C.filter fun p=>decide<|val f.1 p=0):=fun p mp=>(mf p).2<|(f4 p).1 mp
  match e:f.2,f3,nd,mm with
  |a::b::c::l,_,nd,mm=>
   have ha:=(mf a).1 (mm a (by simp));refine⟨hm.tight ((hm.mem a).2 ha.1.1) f1 ha.2,y4 (mm a (by simp)) (mm b (by simp)) (mm c (by simp)) ?_ ?_ ?_⟩
   ·intro e;rw[e] at nd;simp at nd
   ·intro e;rw[e] at nd;simp at nd
   ·intro e;rw[e] at nd;simp at nd
 ·rintro⟨mh,h3⟩;have nd:(C.filter fun p=>decide<|val h p=0).Nodup:=hn.sublist List.filter_sublist
  match e:C.filter fun p=>decide<|val h p=0,h3,nd,mf with
  |a::b::c::l,_,nd,mf=>
   obtain⟨va,ta⟩:=(mf a).1 (by simp);obtain⟨vb,tb⟩:=(mf b).1 (by simp);obtain⟨vc,tc⟩:=(mf c).1 (by simp);obtain⟨f,hf,rfl⟩:=adn I (hm.sub h mh) va vb vc ta tb tc (fun e=>by rw[e] at nd;simp at nd) (fun e=>by rw[e] at nd;simp at nd) (fun e=>by rw[e] at nd;simp at nd);exact bT.2 ⟨f,hf,rfl⟩
def sQ(a:Q3)(A C:att Q3)(u n:Q3)(dim:Int):Prop:=
 (dim=0/\∀p∈C,p=a)\/(dim=1/\(∃b∈A,u=cg b a)/\u≠o3/\∀p∈C,aG u (cg p a)=o3)\/
 (dim=2/\(∃b∈A,∃c∈A,n=aG (cg b a) (cg c a))/\n≠o3/\∀p∈C,aP n (cg p a)=0)
theorem sQ.flat{a:Q3}{A C:att Q3}{dim:Int}(h:sQ a A C u n dim):∃m:Q3,m≠o3/\∀p∈C,aP m p=aP m a:=by
 rcases h with⟨_,h⟩|⟨_,_,hu,h⟩|⟨_,_,hn,h⟩
 ·exact⟨_,G2,fun p mp=>by rw[h p mp]⟩
 ·obtain⟨m,hm,e⟩:=tX u;refine⟨m,hm,fun p mp=>?_⟩;have k:=par hu<|h p mp
  have:aP m (cg p a)=0:=by rw[k,je,pG m u,e];grind
  rw[Fc] at this;grind
 ·refine⟨n,hn,fun p mp=>?_⟩;have:=h p mp;rw[Fc] at this;grind
theorem R3{a:Q3}:cg a a=o3:=vI (by simp only[cg];grind) (by simp only[cg];grind) (by simp only[cg];grind)
theorem adD(u:Q3):aG u o3=o3:=vI (by simp only[aG,o3];grind) (by simp only[aG,o3];grind) (by simp only[aG,o3];grind)
end
section
variable{a:Q3}{A C:List Q3}{u n:Q3}{p:Q3}
theorem sQ.s0(h:sQ a A C u n 0)(e:cg p a=o3):sQ a A (C++[p]) u n 0:=by
 rcases h with⟨_,h⟩|⟨h,_⟩|⟨h,_⟩
 ·refine .inl ⟨rfl,fun q mq=>?_⟩;rcases bN.1 mq with m|m
  ·exact h q m
  ·rw[cr.1 m];exact(Dy e).symm
 ·omega
 ·omega
theorem sQ.s01(h:sQ a A C u n 0)(mp:p∈A)(e:cg p a≠o3):sQ a A (C++[p]) (cg p a) n 1:=by
 rcases h with⟨_,h⟩|⟨h,_⟩|⟨h,_⟩
 ·refine .inr (.inl ⟨rfl,⟨p,mp,rfl⟩,e,fun q mq=>?_⟩);rcases bN.1 mq with m|m
  ·rw[h q m,R3,adD]
  ·rw[cr.1 m,CL]
 ·omega
 ·omega
theorem sQ.s1(h:sQ a A C u n 1)(e:aG u (cg p a)=o3):sQ a A (C++[p]) u n 1:=by
 rcases h with⟨h,_⟩|⟨_,h1,h2,h⟩|⟨h,_⟩
 ·omega
 ·refine .inr (.inl ⟨rfl,h1,h2,fun q mq=>?_⟩);rcases bN.1 mq with m|m
  ·exact h q m
  ·rw[cr.1 m];exact e
 ·omega
theorem sQ.Di(h:sQ a A C u n 1)(mp:p∈A)(e:aG u (cg p a)≠o3):sQ a A (C++[p]) u (aG u<|cg p a) 2:=by
 rcases h with⟨h,_⟩|⟨_,⟨b,mb,hb⟩,h2,h⟩|⟨h,_⟩
 ·omega
 ·refine .inr (.inr ⟨rfl,⟨b,mb,p,mp,by rw[hb]⟩,e,fun q mq=>?_⟩);rcases bN.1 mq with m|m
  ·rw[par h2<|h q m,je,pG (aG u<|cg p a) u,Gx];grind
  ·rw[cr.1 m,pG,CJ]
 ·omega
theorem sQ.s2(h:sQ a A C u n 2)(e:aP n (cg p a)=0):sQ a A (C++[p]) u n 2:=by
 rcases h with⟨h,_⟩|⟨h,_⟩|⟨_,h1,h2,h⟩
 ·omega
 ·omega
 ·refine .inr (.inr ⟨rfl,h1,h2,fun q mq=>?_⟩);rcases bN.1 mq with m|m
  ·exact h q m
  ·rw[cr.1 m];exact e
theorem sQ.s3(h:sQ a A C u n 2)(e:aP n (cg p a)≠0):∃b∈A,∃c∈A,oS (cg b a) (cg c a) (cg p a)≠0:=by
 rcases h with⟨h,_⟩|⟨h,_⟩|⟨_,⟨b,mb,c,mc,rfl⟩,_⟩
 ·omega
 ·omega
 ·exact⟨b,mb,c,mc,e⟩
end
section
variable{α:Type}
theorem tQ{α:Type}[DecidableEq α]:∀{l T:att α},l.Nodup->(∀x∈l,x∈T)->l.length<=T.length
 |[],_,_,_=>iR _
 |x::l,T,hn,h=>by
  obtain⟨h1,h2⟩:=List.nodup_cons.1 hn;have:=tQ (l:=l) (T:=T.erase x) h2 fun y my=>(List.mem_erase_of_ne (fun e=>h1 (by rw[<-e];exact my))).2<|h y<|cW _ my
  rw[List.length_erase_of_mem<|h x gJ] at this;have:0<T.length:=List.length_pos_of_mem<|h x gJ
  rw[List.length_cons];omega
def aok(M:att H3):att Q3:=M.flatMap fun a=>M.flatMap fun b=>M.map fun c=>sC a b c
theorem aa7(M:att H3):(aok M).length=M.length*(M.length*M.length):=by
 have flat:∀{α β:Type} (f:α->att β) (w:Nat) (l:att α),(∀x∈l,(f x).length=w)->(l.flatMap f).length=l.length*w:=by
  intro α β f w l
  induction l with
  |nil=>intro _;simp
  |cons x l ih=>intro h;rw[Ay,List.length_append,h x gJ,ih fun y my=>h y<|cW _ my,List.length_cons,Cs,wS]
 exact flat _ _ _ fun a _=>flat _ _ _ fun b _=>c7 _
theorem Xi{M:att H3}{l:att Q3}(hn:l.Nodup)(h:∀p∈l,rG M p):l.length<=M.length*(M.length*M.length):=by
 rw[<-aa7];refine tQ hn fun p mp=>?_
 obtain⟨_,a,ma,b,mb,c,mc,_,rfl⟩:=Dv.1<|h p mp
 exact Ly.2 ⟨a,ma,Ly.2 ⟨b,mb,bT.2 ⟨c,mc,rfl⟩⟩⟩
theorem nu.len{S:att iK}{M:att H3}(I:nu S M):S.length<=M.length:=by
 rw[<-c7 (·.1)];refine tQ (yu.2<|I.WH.imp fun h=>h) fun x mx=>?_
 obtain⟨f,mf,rfl⟩:=bT.1 mx;exact(I.zF f mf).1
theorem XB{α:Type}{T:α->α->Prop}(s:∀a b,T a b->T b a):∀{L:att α} {a b:α},a≠b->a∈L->b∈L->T a b->∃x y,[y,x].Sublist L/\T x y
 |h::t,a,b,hne,ma,mb,ht=>by
  by_cases ea:a=h
  ·have mb':b∈t:=(aY.1 mb).resolve_left fun e=>hne (by rw[ea,e])
   exact⟨b,a,by rw[ea];exact(Ig.2 mb').cons_cons h,s _ _ ht⟩
  ·have ma':a∈t:=(aY.1 ma).resolve_left ea;by_cases eb:b=h
   ·exact⟨a,b,by rw[eb];exact(Ig.2 ma').cons_cons h,ht⟩
   ·obtain⟨x,y,h1,h2⟩:=XB s hne ma' ((aY.1 mb).resolve_left eb) ht;exact⟨x,y,h1.cons h,h2⟩
theorem aa9{α:Type}{T:α->α->α->Prop}(Di:∀a b c,T a b c->T b a c)(s23:∀a b c,T a b c->T a c b):∀{L:att α} {a b c:α},a≠b->b≠c->a≠c->a∈L->b∈L->c∈L->T a b c->∃x y z,[z,y,x].Sublist L/\T x y z
 |h::t,a,b,c,h1,h2,h3,ma,mb,mc,ht=>by
  have two:∀{a b c:α},a≠b->b≠c->a≠c->c=h->a∈h::t->b∈h::t->T a b c->∃x y z,[z,y,x].Sublist (h::t)/\T x y z:=fun{a b c} h1 h2 h3 e ma mb ht=>by
   obtain⟨x,y,k1,k2⟩:=XB (T:=fun a b=>T a b c) (fun a b k=>Di _ _ _ k) h1 ((aY.1 ma).resolve_left fun k=>h3 (by rw[k,e])) ((aY.1 mb).resolve_left fun k=>h2 (by rw[k,e])) ht;exact⟨x,y,c,by rw[e];exact k1.cons_cons h,k2⟩
  by_cases ec:c=h
  ·exact two h1 h2 h3 ec ma mb ht
  ·by_cases eb:b=h
   ·exact two h3 (Ne.symm h2) h1 eb ma mc<|s23 _ _ _ ht
   ·by_cases ea:a=h
    ·exact two h2 (Ne.symm h3) (Ne.symm h1) ea mb mc<|s23 _ _ _<|Di _ _ _ ht
    ·obtain⟨x,y,z,k1,k2⟩:=aa9 Di s23 h1 h2 h3 ((aY.1 ma).resolve_left ea) ((aY.1 mb).resolve_left eb) ((aY.1 mc).resolve_left ec) ht;exact⟨x,y,z,k1.cons h,k2⟩
theorem YZ{L:att H3}{p:Q3}:rG L p↔Mem L p/\∃a b c,[c,b,a].Sublist L/\oS a.1 b.1 c.1≠0/\p=sC a b c:=by
 rw[Dv];refine and_congr Iff.rfl ⟨?_,?_⟩
 ·rintro⟨a,ma,b,mb,c,mc,hd,hp⟩;refine aa9 (T:=fun a b c:H3=>oS a.1 b.1 c.1≠0/\p=sC a b c) (fun a b c h=>⟨by rw[NR];have:=h.1;grind,by rw[h.2,TQ a b c h.1]⟩) (fun a b c h=>⟨by rw[NQ];have:=h.1;grind,by rw[h.2,TP a b c h.1]⟩) ?_ ?_ ?_ ma mb mc ⟨hd,hp⟩
  ·intro e;refine hd ?_;rw[e];unfold oS;rw[CL];unfold aP o3;grind
  ·intro e;refine hd ?_;rw[e];unfold oS;rw[pG,CJ]
  ·intro e;refine hd ?_;rw[e];unfold oS;rw[pG,Gx]
 ·rintro⟨a,b,c,hs,hd,hp⟩;exact⟨a,hs.subset (by simp),b,hs.subset (by simp),c,hs.subset (by simp),hd,hp⟩
end
section
variable{l:att Int}{n:Nat}{u0 v0 v1 U2 q:Int}
abbrev BT:Int:=1000000000
def aJ:att Int->Int
 |[]=>0
 |x::l=>x+BT*aJ l
def sA(l:att Int):Prop:=∀x∈l,0<=x/\x<BT
def js(n:Nat):Int:=BT^n
def zb:js 0=1:=rfl
def jV(n:Nat):js (n+1)=BT*js n:=by unfold js;rw[Int.pow_succ,Int.mul_comm]
def sW:∀n,0<js n
 |0=>by rw[zb];omega
 |n+1=>by rw[jV];have:=sW n;unfold BT;omega
def K6(m n:Nat):js (m+n)=js m*js n:=by unfold js;rw[Int.pow_add]
def lO(x:Int)(l:att Int):aJ (x::l)=x+BT*aJ l:=rfl
def oY:∀(l m:att Int),aJ (l++m)=aJ l+js l.length*aJ m
 |[],m=>by simp[aJ,zb]
 |x::l,m=>by
  rw[Ax,lO,lO,oY l m,List.length_cons,jV,bt,eP];omega
def Lf:sA []:=by intro x h;cases h
def HD{x:Int}:sA (x::l)↔(0<=x/\x<BT)/\sA l:=by
 unfold sA;simp only[aY,forall_eq_or_imp]
def Ci{m:att Int}:sA (l++m)↔sA l/\sA m:=by
 unfold sA;constructor
 ·exact fun h=>⟨fun x hx=>h x<|pd _ hx,fun x hx=>h x<|AD _ hx⟩
 ·rintro⟨h1,h2⟩ x hx;rcases bN.1 hx with h|h
  ·exact h1 x h
  ·exact h2 x h
def mX(h:sA l)(n:Nat):sA (l.take n):=fun x hx=>h x<|zx hx
def zg(h:sA l)(n:Nat):sA (l.drop n):=fun x hx=>h x<|yx hx
def hZ(h:sA l)(n:Nat):0<=l.getD n 0/\l.getD n 0<BT:=by
 by_cases hn:n<l.length
 ·have:l.getD n 0=l[n]:=by simp[iy,hn]
  rw[this];exact h _<|rY hn
 ·have:l.getD n 0=0:=by simp[iy,hn]
  rw[this];unfold BT;omega
def A4(n:Nat):sA (List.replicate n 0):=fun x hx=>by
 rw[(List.mem_replicate.1 hx).2];unfold BT;omega
def HC(h:sA l)(n:Nat){x:Int}(hx:0<=x/\x<BT):sA (l.set n x):=fun y hy=>by
 rcases List.mem_or_eq_of_mem_set hy with h'|h'
 ·exact h y h'
 ·subst h';exact hx
def Dx:∀n,aJ (List.replicate n 0)=0
 |0=>rfl
 |n+1=>by rw[List.replicate_succ,lO,Dx n];omega
def bP:∀{l:att Int},sA l->0<=aJ l/\aJ l<js l.length
 |[],_=>by simp[aJ,zb]
 |x::l,h=>by
  rw[HD] at h;obtain⟨h1,h2⟩:=bP h.2;rw[lO,List.length_cons,jV];have:=h.1;unfold BT at*;omega
def om(h:n<l.length):aJ (l.take<|n+1)=aJ (l.take n)+js n*l.getD n 0:=by
 rw[uz h,oY,List.length_take,fW (by omega)];simp[aJ]
def qw(l:att Int)(n:Nat)(h:n<=l.length):aJ l=aJ (l.take n)+js n*aJ (l.drop n):=by
 conv=>lhs;rw[<-zz n l]
 rw[oY,List.length_take,fW h]
def vQ:∀{l:att Int},sA l->l≠[]->l.getLast?≠some 0->js (l.length-1)<=aJ l
 |[],_,h,_=>absurd rfl h
 |[x],h,_,hl=>by
  rw[HD] at h;have:x≠0:=fun e=>hl (by rw[e];rfl)
  simp[aJ,zb];omega
 |x::y::l,h,_,hl=>by
  rw[HD] at h;have:=vQ (l:=y::l) h.2 (by simp) (by simpa using hl);rw[lO,show(x::y::l).length-1=(y::l).length-1+1 from by simp,jV];have:=h.1;unfold BT at*;omega
def tK(w:att Int):Prop:=sA w/\w.getLast?≠some 0
def tK.nil:tK []:=⟨Lf,by simp⟩
def tK.len{w:att Int}(h:tK w)(hv:aJ w<js n):w.length<=n:=by
 by_cases h0:w=[]
 ·subst h0;simp
 ·have h1:=vQ h.1 h0 h.2;rcases kQ n w.length with h2|h2
  ·have:js n<=js (w.length-1):=by
    obtain⟨k,hk⟩:∃k,w.length-1=n+k:=⟨w.length-1-n,by omega⟩;rw[hk,K6];have a:=sW n;have b:=sW k;have:js n*1<=js n*js k:=gM (by omega) (by omega);omega
   omega
  ·exact h2
def Xl(h:n<l.length):aJ l=aJ (l.take n)+js n*(l.getD n 0+BT*aJ (l.drop<|n+1)):=by
 rw[qw l n (by omega)]
 congr 2
 rw[D7 h,lO]
 congr 1
 simp[iy,h]
def Tp{m:Nat}(h:m<=n):js m<=js n:=by
 obtain⟨k,rfl⟩:∃k,n=m+k:=⟨n-m,by omega⟩;rw[K6];have a:=sW m;have b:=sW k;have:js m*1<=js m*js k:=gM (by omega) (by omega);omega
def B3{a b:att Int}(ha:sA a)(hb:tK b)(h:a.length<b.length):aJ a<aJ b:=by
 have h1:=(bP ha).2;have h2:=vQ hb.1 (by intro e;subst e;simp at h) hb.2;have h3:=Tp (show a.length<=b.length-1 by omega);omega
def db(l:att Int)(n:Nat):aJ (l.take<|n+1)=aJ (l.take n)+js n*l.getD n 0:=by
 rcases kQ n l.length with h|h
 ·exact om h
 ·rw[AG h,eF (by omega),eF h];omega
def Mv(h:aJ (l.drop n)=0)(hk:sA l){m:Nat}(hm:n<=m):l.getD m 0=0:=by
 have key:∀(l:att Int) (j:Nat),sA l->aJ l=0->l.getD j 0=0:=by
  intro l
  induction l with
  |nil=>intro j _ _;simp
  |cons x l ih=>
   intro j hk hv;rw[HD] at hk;rw[lO] at hv;have h1:=(bP hk.2).1;have hx:=hk.1;unfold BT at*;cases j with
   |zero=>simp;omega
   |succ j=>simpa using ih j hk.2 (by omega)
 have:=key (l.drop n) (m-n) (zg hk n) h;simpa[iy,wW,show n+(m-n)=m by omega] using this
def afY{r:Int}(e:q*v1+r=U2)(h:BT*r+u0<q*v0):(u0+BT*U2)+1<=q*(v0+BT*v1):=by
 rw[bt,iT q BT v1,<-e,bt];omega
def afZ{r:Int}(e:q*v1+r=U2)(hr:r<v1)(hu:u0<BT)(hq:0<=q)(hv:0<=v0):(u0+BT*U2)+1<=(q+1)*(v0+BT*v1):=by
 rw[bt,iT _ BT v1,<-e,kP q 1 v1,Int.one_mul];have:0<=(q+1)*v0:=rU (by omega) hv;unfold BT at*;omega
def af0{R P UL VL:Int}(e:q*v1+R=U2)(hq:0<=q/\q<BT)(hR:0<=R)(Nu:0<=v0/\v0<BT)(hu0:0<=u0)(hv1:BT<=2*v1)(h:BT<=R\/q*v0<=BT*R+u0)
 (hP:0<P)(hU:0<=UL)(hV:VL<P)(hV0:0<=VL):(q-1)*(VL+P*(v0+BT*v1))<=UL+P*(u0+BT*U2):=by
 have hY:q*(v0+BT*v1)<=u0+BT*U2:=by
  rw[bt,iT q BT v1,<-e,bt];have:q*v0<=BT*R+u0:=by
   rcases h with h|h
   ·have:q*v0<=(BT-1)*(BT-1):=wT (by omega) (by omega) Nu.1 (by unfold BT;omega);unfold BT at*;omega
   ·exact h
  omega
 have h1:=gM hY<|fU hP
 have h2:q*VL<=BT*P:=wT (by omega) (by omega) hV0 (by unfold BT;omega);have h3:P*BT<=P*(v0+BT*v1):=gM (by unfold BT at*;omega)<|fU hP
 rw[Int.sub_mul,Int.one_mul,bt q,iT q P];rw[Int.mul_comm P BT] at h3;omega
def aiX{u1 u2 P UL VL:Int}(hP:0<P)(hU:0<=UL)(hu0:0<=u0)(hu1:0<=u1)(hV:VL<P)(Nu:v0<BT)(h:UL+P*(u0+BT*(u1+BT*u2))<BT*(VL+P*(v0+BT*v1))):u2<=v1:=by
 rcases(show v1<u2\/u2<=v1 by omega) with h'|h'
 ·exfalso;have h1:BT*(v0+BT*v1+1)<=u0+BT*(u1+BT*u2):=by unfold BT at*;omega
  have h2:=gM h1<|fU hP
  rw[iT P BT,bt P _ 1,ni] at h2;rw[bt BT VL] at h;rw[bt BT _ P] at h2;have h3:BT*VL<=BT*P:=gM (by omega) (by unfold BT;omega);omega
 ·exact h'
end
end Trn
